/- Contracts of functions of the given program, walked. Conditions: those at each theorem. -/
import Derived.Test.YtmdbhpbogbekmaaQNtx0
namespace Go.Proofs.Ytmdbhpbogbekmaa.QNt
open Go.RowKit Go.Proofs.YtmdbhpbogbekmaaW.PrintWords Go.Proofs.YtmdbhpbogbekmaaW.PrintLast Go.Proofs.YtmdbhpbogbekmaaW.PrintMore
open List (setIfInBounds_toArray set_cons_zero set_cons_succ map_toArray map_cons map_nil)
attribute [local go_sem] max2_int min2_int max_two min_two max_three min_three max_four min_four
set_option linter.unusedVariables false
set_option maxHeartbeats 8000000
set_option maxRecDepth 100000
set_option linter.unusedSimpArgs false
def impl_in.f (a0 : Int) (a1 : Int) (a2 : Int) : Option (Bool) := if a1 ≤ a0 then (some (decide (a0 ≤ a2))) else (some false)
theorem impl_in.calls (a0 : Int) (a1 : Int) (a2 : Int) (r : Bool) (w : World) (h : impl_in.f a0 a1 a2 = some r) :
  Calls Try.prog 75 #[.int .i64 a0, .int .i64 a1, .int .i64 a2] w fun e w' => e = .returned (.bool r) ∧ Drawn0 w w' := by
 have H : (if a1 ≤ a0 then (some (decide (a0 ≤ a2))) else (some false)) = some r := h
 clear h
 by_cases c4 : a1 ≤ a0
 ·rw [if_pos c4] at H
  have c4b0 := decide_eq_true c4
  clear c4
  obtain rfl := Option.some.inj H
  go_enter Try.func75, Try.ntmps75
  go_wp2
  go_ret
  exact ⟨ry_, by repeat (first | exact Drawn0.refl _ | apply Drawn0.step)⟩
 ·rw [if_neg c4] at H
  have c4b0 := decide_eq_false c4
  clear c4
  obtain rfl := Option.some.inj H
  go_enter Try.func75, Try.ntmps75
  go_wp2
  go_ret
  exact ⟨ry_, by repeat (first | exact Drawn0.refl _ | apply Drawn0.step)⟩
def anyO {α : Type} (p : α → Option Bool) : List α → Option Bool
 | [] => some false
 | x :: xs => (p x).bind fun b => if b = true then some true else anyO p xs
theorem anyO_some {α : Type} (p : α → Bool) (l : List α) : anyO (fun x => some (p x)) l = some (l.any p) := by
 induction l with
 | nil => rfl
 | cons x xs ih =>
  simp only [anyO, Option.bind_some, List.any_cons]
  cases p x
  ·simpa using ih
  ·simp
theorem drop_at_i64 {l : List (Int)} {kk : Nat} (h : kk < l.length) : l.drop kk = rd l (kk : Int) :: l.drop (kk + 1) := by
 rw [List.drop_eq_getElem_cons h]
 simp [rd, List.getD_eq_getElem?_getD, List.getElem?_eq_getElem h]
theorem slices_IndexFunc_int_int.calls_fn (g : Nat) (lb : Array Value) (eg : ∀ args w, (callFunc g args).run Try.prog w = .ok (.enter g args) w) (p : Int → Option Bool)
  (A : Option Addr) (c : Nat) (l : List (Int)) (w : World) (hr : Kd.C (Kd.int .i64) w A l.length l)
  (hp : ∀ (W : World) (x : Int) (r : Bool), Below w.heap.size w W → p x = some r → Calls Try.prog g (#[.int .i64 x] ++ lb) W fun e w' => e = .returned (.bool r) ∧ Below W.heap.size W w')
  (r : Bool) (h : anyO p l = some r) :
  Calls Try.prog 110 #[.slice A l.length c, .func (.func g) #[] lb] w fun e w' => (∃ i : Int, e = .returned (.int .i64 i) ∧ decide (i ≥ 0) = r) ∧ Below w.heap.size w w' := by
 have HR0 := ak_ hr
 clear hr
 go_enter Try.func110, Try.ntmps110
 go_wp2
 go_loopg [5, 8] l.length (fun gg _ s8 wr => ∃ kk : Nat, kk ≤ l.length ∧ l.length - kk ≤ gg ∧ s8 = .int .i64 kk ∧ Aside0 (Below w.heap.size w wr) ∧ Aside0 (anyO p (l.drop kk) = some r))
 case atStart => exact ⟨0, Nat.zero_le _, by omega, rfl, ⟨Below.refl _ w⟩, ⟨h⟩⟩
 case round =>
  clear h
  obtain ⟨kk, hkk, hg, rfl, BW, A0⟩ := hrel
  have hbig := HR0.out.2.1
  by_cases hlt : kk < l.length
  ·have hltz : (kk : Int) < (l.length : Int) := by omega
   have hA := A0.out
   clear A0
   rw [drop_at_i64 hlt] at hA
   simp only [anyO] at hA
   obtain ⟨b, hb0, hb⟩ := Option.bind_eq_some_iff.mp hA
   clear hA
   obtain ⟨ad, eA, hx⟩ := Kd.at_int (Kd.C_below HR0.out BW.out) (kk : Int) (by omega) (by omega)
   cases eA
   simp only [Int.toNat_natCast] at hx
   have hcall := hp wr _ b BW.out hb0
   clear hp
   cases b with
   | true =>
    obtain rfl : true = r := by simpa using hb
    go_wp2_with (go_at_fn g; refine hcall.mono ?_; rintro e w' ⟨rfl, hb'⟩)
    go_ret
    exact ⟨⟨_, rfl, by simp⟩, BW.out.trans (hb'.mono BW.out.size)⟩
   | false =>
    have hb2 : anyO p (l.drop (kk + 1)) = some r := by simpa using hb
    have HB2 := ak_ hb2
    clear hb hb2
    go_wp2_with (go_at_fn g; refine hcall.mono ?_; rintro e w' ⟨rfl, hb'⟩)
    go_roundg (l.length - (kk + 1))
    case measure => omega
    case rel => exact ⟨kk + 1, by omega, by omega, by go_num, ⟨BW.out.trans (hb'.mono BW.out.size)⟩, HB2⟩
  ·have hltz : ¬ (kk : Int) < (l.length : Int) := by omega
   have : kk = l.length := by omega
   subst this
   have hA := A0.out
   clear A0
   rw [List.drop_length] at hA
   obtain rfl : false = r := by simpa [anyO] using hA
   go_wp2
   go_ret
   exact ⟨⟨_, rfl, by decide⟩, BW.out⟩
theorem slices_ContainsFunc_int_int.calls_fn (g : Nat) (lb : Array Value) (eg : ∀ args w, (callFunc g args).run Try.prog w = .ok (.enter g args) w) (p : Int → Option Bool)
  (A : Option Addr) (c : Nat) (l : List (Int)) (w : World) (hr : Kd.C (Kd.int .i64) w A l.length l)
  (hp : ∀ (W : World) (x : Int) (r : Bool), Below w.heap.size w W → p x = some r → Calls Try.prog g (#[.int .i64 x] ++ lb) W fun e w' => e = .returned (.bool r) ∧ Below W.heap.size W w')
  (r : Bool) (h : anyO p l = some r) :
  Calls Try.prog 94 #[.slice A l.length c, .func (.func g) #[] lb] w fun e w' => e = .returned (.bool r) ∧ Below w.heap.size w w' := by
 have hI := ak_ (slices_IndexFunc_int_int.calls_fn g lb eg p A c l w hr hp r h)
 clear hr hp h
 go_enter Try.func94, Try.ntmps94
 go_wp2_with (go_at_call 110; refine hI.out.mono ?_; rintro e w' ⟨⟨i, rfl, hi⟩, hb'⟩)
 go_ret
 exact ⟨by first | rfl | simp [hi], hb'⟩
def impl_areIn.f (l0 : List Int) (a1 : Int) (a2 : Int) (a3 : Int) (a4 : Int) : Option Bool :=
 some ((decide (a3 ≤ (l0.length : Int)) && decide ((l0.length : Int) ≤ a4)) && !(l0.any fun x => !(decide (a1 ≤ x) && decide (x ≤ a2))))
theorem impl_in.f_eq (x a b : Int) : impl_in.f x a b = some (decide (a ≤ x) && decide (x ≤ b)) := by
 unfold impl_in.f
 by_cases h : a ≤ x <;> simp [h]
theorem impl_areIn.calls_1 (x a1 a2 : Int) (B1 B2 : Nat) (w : World) (h1 : w.cell? ⟨B1, 0, none⟩ = some (.int .i64 a1)) (h2 : w.cell? ⟨B2, 0, none⟩ = some (.int .i64 a2)) :
  Calls Try.prog 95 (#[.int .i64 x] ++ #[.pointer (some ⟨B1, 0, none⟩), .pointer (some ⟨B2, 0, none⟩)]) w fun e w' => e = .returned (.bool (!(decide (a1 ≤ x) && decide (x ≤ a2)))) ∧ Below w.heap.size w w' := by
 have hin := fun W => impl_in.calls x a1 a2 _ W (impl_in.f_eq x a1 a2)
 generalize hb : (decide (a1 ≤ x) && decide (x ≤ a2)) = b at hin ⊢
 clear hb
 go_enter Try.func95, Try.ntmps95
 go_wp2_with (go_at_call 75; refine (hin _).mono ?_; rintro e w' ⟨rfl, ⟨nd, rfl⟩⟩)
 go_ret
 exact ⟨rfl, by repeat (first | exact Below.refl _ _ | apply bN_ | apply b1_)⟩
theorem impl_areIn.calls (A0 : Option Addr) (c0 : Nat) (l0 : List Int) (a1 : Int) (a2 : Int) (a3 : Int) (a4 : Int) (r : Bool) (w : World) (hr0 : Kd.C (Kd.int .i64) w A0 l0.length l0) (hc0 : l0.length ≤ c0) (h : impl_areIn.f l0 a1 a2 a3 a4 = some r) :
  Calls Try.prog 74 #[.slice A0 l0.length c0, .int .i64 a1, .int .i64 a2, .int .i64 a3, .int .i64 a4] w fun e w' => e = .returned (.bool r) ∧ Below w.heap.size w w' := by
 have hin := fun W => impl_in.calls (l0.length : Int) a3 a4 _ W (impl_in.f_eq _ a3 a4)
 obtain rfl := Option.some.inj h
 clear h
 have hC := ak_ fun (W : World) (hb : Below w.heap.size w W) (B1 B2 : Nat) (h1 : W.cell? ⟨B1, 0, none⟩ = some (.int .i64 a1)) (h2 : W.cell? ⟨B2, 0, none⟩ = some (.int .i64 a2)) (hB1 : B1 < W.heap.size) (hB2 : B2 < W.heap.size) =>
  slices_ContainsFunc_int_int.calls_fn 95 #[.pointer (some ⟨B1, 0, none⟩), .pointer (some ⟨B2, 0, none⟩)] (enters_of Try.func95 (by kernel_rfl) rfl) (fun x => some (!(decide (a1 ≤ x) && decide (x ≤ a2)))) A0 c0 l0 W (Kd.C_below hr0 hb)
   (fun W' x r hb' hx => by
    obtain rfl := Option.some.inj hx
    exact impl_areIn.calls_1 x a1 a2 B1 B2 W' ((hb'.cell (p := ⟨B1, 0, none⟩) hB1).trans h1) ((hb'.cell (p := ⟨B2, 0, none⟩) hB2).trans h2)) _ (anyO_some _ l0)
 clear hr0
 generalize hq : (l0.any fun x => !(decide (a1 ≤ x) && decide (x ≤ a2))) = q at hC ⊢
 clear hq
 generalize hb : (decide (a3 ≤ (l0.length : Int)) && decide ((l0.length : Int) ≤ a4)) = b at hin ⊢
 clear hb
 cases b
 ·go_enter Try.func74, Try.ntmps74
  go_wp2_with (go_at_call 75; refine (hin _).mono ?_; rintro e w' ⟨rfl, ⟨nd, rfl⟩⟩)
  go_ret
  exact ⟨rfl, by repeat (first | exact Below.refl _ _ | apply ba_ | apply bN_ | apply b1_)⟩
 ·go_enter Try.func74, Try.ntmps74
  go_wp2_with (first | (go_at_call 75; refine (hin _).mono ?_; rintro e w' ⟨rfl, ⟨nd, rfl⟩⟩) | (go_at_call 94; refine (hC.out _ (by repeat (first | exact Below.refl _ _ | apply ba_ | apply bN_ | apply b1_)) _ _ (by simp) (by simp) (by first | (simp; done) | (simp; omega)) (by first | (simp; done) | (simp; omega))).mono ?_; rintro e w' ⟨rfl, hb'⟩))
  go_ret
  exact ⟨by cases q <;> rfl, Below.trans (by repeat (first | exact Below.refl _ _ | apply ba_ | apply bN_ | apply b1_)) (hb'.mono (by first | (simp; done) | (simp; omega)))⟩
def impl_IsNight.f (l0_0 : List Int) (a0_1 : Int) (a0_2 : Int) : Option (Bool) := (impl_areIn.f l0_0 1 1000 1 6).bind fun t380 => (if t380 = true then ((impl_in.f a0_1 1 3).bind fun t381 => (if t381 = true then ((impl_in.f a0_2 1 2).bind fun t382 => (some t382)) else (some false))) else (some false))
theorem impl_IsNight.calls (A0_0 : Option Addr) (c0_0 : Nat) (l0_0 : List Int) (a0_1 : Int) (a0_2 : Int) (r : Bool) (w : World) (hr0_0 : Kd.C (Kd.int .i64) w A0_0 l0_0.length l0_0) (hc0_0 : l0_0.length ≤ c0_0) (h : impl_IsNight.f l0_0 a0_1 a0_2 = some r) :
  Calls Try.prog 54 #[.agg #[.slice A0_0 l0_0.length c0_0, .int .i64 a0_1, .int .i64 a0_2]] w fun e w' => e = .returned (.bool r) ∧ Below w.heap.size w w' := by
 have hu33 := Try.underlying33
 have HR0_0 := ak_ hr0_0
 have HC0_0 := ak_ hc0_0
 clear hr0_0 hc0_0
 have HB := ak_ (Below.refl w.heap.size w)
 have H : ((impl_areIn.f l0_0 1 1000 1 6).bind fun t380 => (if t380 = true then ((impl_in.f a0_1 1 3).bind fun t381 => (if t381 = true then ((impl_in.f a0_2 1 2).bind fun t382 => (some t382)) else (some false))) else (some false))) = some r := h
 clear h
 replace H := Option.bind_eq_some_iff.mp H
 obtain ⟨t380, A20, H⟩ := H
 replace H : (if t380 = true then ((impl_in.f a0_1 1 3).bind fun t381 => (if t381 = true then ((impl_in.f a0_2 1 2).bind fun t382 => (some t382)) else (some false))) else (some false)) = some r := H
 have A2 := ak_ A20
 clear A20
 by_cases c3 : t380 = true
 ·
  subst c3
  have H1 : ((impl_in.f a0_1 1 3).bind fun t381 => (if t381 = true then ((impl_in.f a0_2 1 2).bind fun t382 => (some t382)) else (some false))) = some r := by rw [if_pos rfl] at H; exact H
  clear H
  have H := H1
  clear H1
  replace H := Option.bind_eq_some_iff.mp H
  obtain ⟨t381, A40, H⟩ := H
  replace H : (if t381 = true then ((impl_in.f a0_2 1 2).bind fun t382 => (some t382)) else (some false)) = some r := H
  have A4 := ak_ A40
  clear A40
  by_cases c5 : t381 = true
  ·
   subst c5
   have H1 : ((impl_in.f a0_2 1 2).bind fun t382 => (some t382)) = some r := by rw [if_pos rfl] at H; exact H
   clear H
   have H := H1
   clear H1
   replace H := Option.bind_eq_some_iff.mp H
   obtain ⟨t382, A60, H⟩ := H
   replace H : (some t382) = some r := H
   have A6 := ak_ A60
   clear A60
   obtain rfl := Option.some.inj H
   go_enter Try.func54, Try.ntmps54
   go_wp2_with (first | ((with_reducible refine gate_dst (N := 1) rfl ?_); refine bx_ 1 #[.slice A0_0 l0_0.length c0_0, .int .i64 a0_1, .int .i64 a0_2] 33 ?_; intro gb379 hg w7 hbox hb; have BK379 := ak_ (hbox); have GW379 := ak_ ((by rw [hg]; exact (bz_ (bb_ HB.out)) : w.heap.size ≤ gb379)); replace HB := ak_ (bs_ (bb_ HB.out) hb); have GE379 := GW379; clear hb hbox hg; obtain ⟨hcz8_0, hcz8_1, hcz8_2, hfz8_0, hfz8_1, hfz8_2⟩ := c3_ BK379.out) | ((with_reducible refine gate_callee (f := 74) rfl ?_); refine goesL_ (some 5) rfl rfl Try.func74 (by kernel_rfl) rfl #[.slice A0_0 l0_0.length c0_0, .int .i64 1, .int .i64 1000, .int .i64 1, .int .i64 6] rfl rs_ ?_; (with_reducible refine (impl_areIn.calls _ _ l0_0 1 1000 1 6 true _ ?side1 ?side2 A2.out).mono ?_); (case side1 => exact cs_ (Kd.C_below HR0_0.out HB.out)); (case side2 => exact HC0_0.out); rintro e w9 ⟨rfl, hb⟩; refine ⟨_, rfl, ?_⟩; replace BK379 := ak_ (blk_below (pk BK379.out) hb); replace HB := ak_ (bs_ bl_ hb); (try clear hb); (try clear hb2); (try clear hk); (try clear hi); obtain ⟨hcz10_0, hcz10_1, hcz10_2, hfz10_0, hfz10_1, hfz10_2⟩ := c3_ BK379.out) | (go_at_call 75; (with_reducible refine (impl_in.calls a0_1 1 3 true _ A4.out).mono ?_); rintro e w' ⟨rfl, ⟨nd, rfl⟩⟩) | (go_at_call 75; (with_reducible refine (impl_in.calls a0_2 1 2 t382 _ A6.out).mono ?_); rintro e w' ⟨rfl, ⟨nd, rfl⟩⟩))
   go_ret
   exact ⟨rx_, bl_⟩
  ·
   replace c5 := Bool.eq_false_iff.mpr c5
   subst c5
   have H1 : (some false) = some r := by rw [if_neg (show ¬ (false = true) by decide)] at H; exact H
   clear H
   have H := H1
   clear H1
   obtain rfl := Option.some.inj H
   go_enter Try.func54, Try.ntmps54
   go_wp2_with (first | ((with_reducible refine gate_dst (N := 1) rfl ?_); refine bx_ 1 #[.slice A0_0 l0_0.length c0_0, .int .i64 a0_1, .int .i64 a0_2] 33 ?_; intro gb379 hg w11 hbox hb; have BK379 := ak_ (hbox); have GW379 := ak_ ((by rw [hg]; exact (bz_ (bb_ HB.out)) : w.heap.size ≤ gb379)); replace HB := ak_ (bs_ (bb_ HB.out) hb); have GE379 := GW379; clear hb hbox hg; obtain ⟨hcz12_0, hcz12_1, hcz12_2, hfz12_0, hfz12_1, hfz12_2⟩ := c3_ BK379.out) | ((with_reducible refine gate_callee (f := 74) rfl ?_); refine goesL_ (some 5) rfl rfl Try.func74 (by kernel_rfl) rfl #[.slice A0_0 l0_0.length c0_0, .int .i64 1, .int .i64 1000, .int .i64 1, .int .i64 6] rfl rs_ ?_; (with_reducible refine (impl_areIn.calls _ _ l0_0 1 1000 1 6 true _ ?side1 ?side2 A2.out).mono ?_); (case side1 => exact cs_ (Kd.C_below HR0_0.out HB.out)); (case side2 => exact HC0_0.out); rintro e w13 ⟨rfl, hb⟩; refine ⟨_, rfl, ?_⟩; replace BK379 := ak_ (blk_below (pk BK379.out) hb); replace HB := ak_ (bs_ bl_ hb); (try clear hb); (try clear hb2); (try clear hk); (try clear hi); obtain ⟨hcz14_0, hcz14_1, hcz14_2, hfz14_0, hfz14_1, hfz14_2⟩ := c3_ BK379.out) | (go_at_call 75; (with_reducible refine (impl_in.calls a0_1 1 3 false _ A4.out).mono ?_); rintro e w' ⟨rfl, ⟨nd, rfl⟩⟩))
   go_ret
   exact ⟨rx_, bl_⟩
 ·
  replace c3 := Bool.eq_false_iff.mpr c3
  subst c3
  have H1 : (some false) = some r := by rw [if_neg (show ¬ (false = true) by decide)] at H; exact H
  clear H
  have H := H1
  clear H1
  obtain rfl := Option.some.inj H
  go_enter Try.func54, Try.ntmps54
  go_wp2_with (first | ((with_reducible refine gate_dst (N := 1) rfl ?_); refine bx_ 1 #[.slice A0_0 l0_0.length c0_0, .int .i64 a0_1, .int .i64 a0_2] 33 ?_; intro gb379 hg w15 hbox hb; have BK379 := ak_ (hbox); have GW379 := ak_ ((by rw [hg]; exact (bz_ (bb_ HB.out)) : w.heap.size ≤ gb379)); replace HB := ak_ (bs_ (bb_ HB.out) hb); have GE379 := GW379; clear hb hbox hg; obtain ⟨hcz16_0, hcz16_1, hcz16_2, hfz16_0, hfz16_1, hfz16_2⟩ := c3_ BK379.out) | ((with_reducible refine gate_callee (f := 74) rfl ?_); refine goesL_ (some 5) rfl rfl Try.func74 (by kernel_rfl) rfl #[.slice A0_0 l0_0.length c0_0, .int .i64 1, .int .i64 1000, .int .i64 1, .int .i64 6] rfl rs_ ?_; (with_reducible refine (impl_areIn.calls _ _ l0_0 1 1000 1 6 false _ ?side1 ?side2 A2.out).mono ?_); (case side1 => exact cs_ (Kd.C_below HR0_0.out HB.out)); (case side2 => exact HC0_0.out); rintro e w17 ⟨rfl, hb⟩; refine ⟨_, rfl, ?_⟩; replace BK379 := ak_ (blk_below (pk BK379.out) hb); replace HB := ak_ (bs_ bl_ hb); (try clear hb); (try clear hb2); (try clear hk); (try clear hi)))
  go_ret
  exact ⟨rx_, bl_⟩
def impl_Night_torches.f (l0_0 : List Int) (a0_1 : Int) (a0_2 : Int) (l1_0 : List Bool) (a1_1 : Int) (a2 : Bool) : Option (Int) := if a2 = true then (some a1_1) else (some (wrap64 (a0_2 - a1_1)))
theorem impl_Night_torches.calls (A0_0 : Option Addr) (c0_0 : Nat) (l0_0 : List Int) (a0_1 : Int) (a0_2 : Int) (A1_0 : Option Addr) (c1_0 : Nat) (l1_0 : List Bool) (a1_1 : Int) (a2 : Bool) (r : Int) (w : World) (hr0_0 : Kd.C (Kd.int .i64) w A0_0 l0_0.length l0_0) (hc0_0 : l0_0.length ≤ c0_0) (hr1_0 : Kd.C Kd.bool w A1_0 l1_0.length l1_0) (hc1_0 : l1_0.length ≤ c1_0) (h : impl_Night_torches.f l0_0 a0_1 a0_2 l1_0 a1_1 a2 = some r) :
  Calls Try.prog 87 #[.agg #[.slice A0_0 l0_0.length c0_0, .int .i64 a0_1, .int .i64 a0_2], .agg #[.slice A1_0 l1_0.length c1_0, .int .i64 a1_1], .bool a2] w fun e w' => e = .returned (.int .i64 r) ∧ Below w.heap.size w w' := by
 have hu33 := Try.underlying33
 have hu35 := Try.underlying35
 have HR0_0 := ak_ hr0_0
 have HC0_0 := ak_ hc0_0
 clear hr0_0 hc0_0
 have HR1_0 := ak_ hr1_0
 have HC1_0 := ak_ hc1_0
 clear hr1_0 hc1_0
 have HB := ak_ (Below.refl w.heap.size w)
 have H : (if a2 = true then (some a1_1) else (some (wrap64 (a0_2 - a1_1)))) = some r := h
 clear h
 by_cases c4 : a2 = true
 ·
  subst c4
  have H1 : (some a1_1) = some r := by rw [if_pos rfl] at H; exact H
  clear H
  have H := H1
  clear H1
  obtain rfl := Option.some.inj H
  go_enter Try.func87, Try.ntmps87
  go_wp2_with (first | ((with_reducible refine gate_dst (N := 3) rfl ?_); refine bx_ 3 #[.slice A0_0 l0_0.length c0_0, .int .i64 a0_1, .int .i64 a0_2] 33 ?_; intro gb383 hg w5 hbox hb; have BK383 := ak_ (hbox); have GW383 := ak_ ((by rw [hg]; exact (bz_ (bb_ HB.out)) : w.heap.size ≤ gb383)); replace HB := ak_ (bs_ (bb_ HB.out) hb); have GE383 := GW383; clear hb hbox hg) | ((with_reducible refine gate_dst (N := 4) rfl ?_); refine bx_ 4 #[.slice A1_0 l1_0.length c1_0, .int .i64 a1_1] 35 ?_; intro gb384 hg w6 hbox hb; have BK384 := ak_ (hbox); have GW384 := ak_ ((by rw [hg]; exact (bz_ bl_) : w.heap.size ≤ gb384)); replace HB := ak_ (bs_ bl_ hb); have GE384 := GW384; have NB383_384 := ak_ ((by rw [hg]; exact Nat.ne_of_lt (blk_lt (pk BK383.out)) : gb383 ≠ gb384)); replace BK383 := ak_ (blk_below (pk BK383.out) hb); have NB384_383 := ak_ NB383_384.out.symm; clear hb hbox hg; have hnb7 := NB384_383.out; have hnc7 := NB383_384.out; obtain ⟨hcz8_0, hcz8_1, hfz8_0, hfz8_1⟩ := c2_ BK384.out))
  go_ret
  exact ⟨rx_, bl_⟩
 ·
  replace c4 := Bool.eq_false_iff.mpr c4
  subst c4
  have H1 : (some (wrap64 (a0_2 - a1_1))) = some r := by rw [if_neg (show ¬ (false = true) by decide)] at H; exact H
  clear H
  have H := H1
  clear H1
  obtain rfl := Option.some.inj H
  go_enter Try.func87, Try.ntmps87
  go_wp2_with (first | ((with_reducible refine gate_dst (N := 3) rfl ?_); refine bx_ 3 #[.slice A0_0 l0_0.length c0_0, .int .i64 a0_1, .int .i64 a0_2] 33 ?_; intro gb383 hg w9 hbox hb; have BK383 := ak_ (hbox); have GW383 := ak_ ((by rw [hg]; exact (bz_ (bb_ HB.out)) : w.heap.size ≤ gb383)); replace HB := ak_ (bs_ (bb_ HB.out) hb); have GE383 := GW383; clear hb hbox hg) | ((with_reducible refine gate_dst (N := 4) rfl ?_); refine bx_ 4 #[.slice A1_0 l1_0.length c1_0, .int .i64 a1_1] 35 ?_; intro gb384 hg w10 hbox hb; have BK384 := ak_ (hbox); have GW384 := ak_ ((by rw [hg]; exact (bz_ bl_) : w.heap.size ≤ gb384)); replace HB := ak_ (bs_ bl_ hb); have GE384 := GW384; have NB383_384 := ak_ ((by rw [hg]; exact Nat.ne_of_lt (blk_lt (pk BK383.out)) : gb383 ≠ gb384)); replace BK383 := ak_ (blk_below (pk BK383.out) hb); have NB384_383 := ak_ NB383_384.out.symm; clear hb hbox hg; have hnb11 := NB383_384.out; have hnc11 := NB384_383.out; obtain ⟨hcz12_0, hcz12_1, hcz12_2, hfz12_0, hfz12_1, hfz12_2⟩ := c3_ BK383.out; obtain ⟨hcz13_0, hcz13_1, hfz13_0, hfz13_1⟩ := c2_ BK384.out))
  go_ret
  exact ⟨rx_, bl_⟩
def slices_Clone_int_int_s.f (l0 : List Int) : Option (List Int) := (some (([] : List Int) : List Int)).bind fun y385 => (if y385.length + l0.length < 17592186044416 then (some (y385 ++ l0)) else (none))
theorem slices_Clone_int_int_s.calls (ad0 : Addr) (c0 : Nat) (l0 : List Int) (r : List Int) (w : World) (hr0 : Kd.C (Kd.int .i64) w (some ad0) l0.length l0) (hc0 : l0.length ≤ c0) (h : slices_Clone_int_int_s.f l0 = some r) :
  Calls Try.prog 70 #[.slice (some ad0) l0.length c0] w fun e w' => ∃ v0_ : Value, e = .returned (v0_) ∧ Kd.R (Kd.int .i64) 3 w' w.heap.size (fun _ => True) v0_ r ∧ Below w.heap.size w w' := by
 have HR0 := ak_ hr0
 have HC0 := ak_ hc0
 clear hr0 hc0
 have HB := ak_ (Below.refl w.heap.size w)
 have H : ((some (([] : List Int) : List Int)).bind fun y385 => (if y385.length + l0.length < 17592186044416 then (some (y385 ++ l0)) else (none))) = some r := h
 clear h
 obtain ⟨y385, hy385⟩ : ∃ y_ : List Int, y_ = (([] : List Int)) := ⟨_, rfl⟩
 replace H : (if y385.length + l0.length < 17592186044416 then (some (y385 ++ l0)) else (none)) = some r := by first | (rw [hy385]; exact H) | exact H
 have Ny385 := ak_ hy385
 clear hy385
 by_cases c2 : y385.length + l0.length < 17592186044416
 ·rw [if_pos c2] at H
  have LMc2 := ak_ c2
  clear c2
  obtain ⟨y388, hy388⟩ : ∃ y_ : List Int, y_ = (y385 ++ l0) := ⟨_, rfl⟩
  replace H : (some y388) = some r := by first | (rw [hy388]; exact H) | exact H
  have Ny388 := ak_ hy388
  clear hy388
  obtain rfl := Option.some.inj H
  have hnil := fun (W : World) (a : Option Addr) (n c : Nat) => Go.Lib.run_eql_slice_nil (P := Try.prog) W 22 3 a n c 0 0 Try.underlying22
  go_enter Try.func70, Try.ntmps70
  go_wp2_with (first | ((with_reducible refine gate_dst (N := 5) rfl ?_); refine Kd.R_lit (Kd.int .i64) _ 3 ?hg (N := 5) ?hd (xs := ([] : List Int)) (inner := []) (ok := fun _ => True) (okp := fun _ => True) ?hr ?hp (fun _ hk => hk) trivial (Below.refl _ _) (Nat.le_refl _) (by simp) ?_; (case hd => rfl); (case hg => rfl); (case hr => go_simp <;> rfl); (case hp => exact (Reps.none _ _)); intro v386 w3 ho4 hb hg_ hnew_; clear hg_ hnew_; (first | rw [← Ny385.out] at ho4 | (simp only [Int.reduceToNat] at ho4; rw [← Ny385.out] at ho4)); have HO387 := ak_ (Kd.R_lower ho4 (bz_ (bb_ HB.out))); replace HB := ak_ (bs_ (bb_ HB.out) hb); clear hb ho4) | ((with_reducible refine gate_builtin (b := .append) (xs := #[.tmp 5, .tmp 6]) rfl ?_); at_builtin; refine Kd.R_append_rows (Kd.int .i64) (w0 := w) w.heap.size rfl (.tmp 5) (.tmp 6) 22 3 (.int .i64 0) 8 rfl Try.underlying22 info3 rfl (by decide) (by omega) v386 y385 l0 _ _ _ (fun _ => True) (fun _ => False) rfl rfl ?aO ?aR (fun _ _ h => h) (fun _ h => h.elim) ?aF ?aB ?aS ?aL ?_; (case aR => repeat (first | exact (Kd.C_below HR0.out HB.out) | (with_reducible refine Kd.C_alloc ?_ _) | (with_reducible refine Kd.C_drewN ?_ _) | (with_reducible refine Kd.C_drew ?_))); (case aB => exact (bb_ HB.out)); (case aF => exact (fun _ _ => trivial)); (case aO => exact (Kd.pR HO387.out)); (case aS => exact (bz_ (bb_ HB.out))); (case aL => have := LMc2.out; omega); intro v389 w5 ho hb hg hat; rw [← Ny388.out] at ho; replace HB := ak_ (hb); have HO390 := ak_ (ho); clear HO387; clear ho hb hg hat))
  go_ret
  exact ⟨_, rx_, by (with_reducible repeat (first | apply Kd.R_alloc | apply Kd.R_drewN | apply Kd.R_drew)); exact HO390.out, bb_ HB.out⟩
 ·rw [if_neg c2] at H
  exact absurd H (by simp)
theorem slices_Clone_int_int_s.f_eq (l0 : List Int) : slices_Clone_int_int_s.f l0 = if l0.length < 17592186044416 then some l0 else none := by
 unfold slices_Clone_int_int_s.f
 simp
def slices_Clone_int_int.f (l0 : List Int) : Option (List Int) := if l0.length < 17592186044416 then some l0 else none
theorem slices_Clone_int_int.calls (A0 : Option Addr) (c0 : Nat) (l0 : List Int) (r : List Int) (w : World) (hr0 : Kd.C (Kd.int .i64) w A0 l0.length l0) (hc0 : l0.length ≤ c0) (h : slices_Clone_int_int.f l0 = some r) :
  Calls Try.prog 70 #[.slice A0 l0.length c0] w fun e w' => ∃ v0_ : Value, e = .returned (v0_) ∧ Kd.R (Kd.int .i64) 3 w' w.heap.size (fun _ => True) v0_ r ∧ Below w.heap.size w w' := by
 cases A0 with
 | some ad => exact slices_Clone_int_int_s.calls ad c0 l0 r w hr0 hc0 (by rw [slices_Clone_int_int_s.f_eq]; exact h)
 | none =>
  obtain rfl : l0 = [] := by
   cases l0 with
   | nil => rfl
   | cons x xs =>
    obtain ⟨ad, he, _⟩ := hr0.2.2 (by simp)
    exact absurd he (by simp)
  obtain rfl : [] = r := by
   unfold slices_Clone_int_int.f at h
   simpa using h
  clear hr0 h
  have hnil := fun (W : World) (a : Option Addr) (n c : Nat) => Go.Lib.run_eql_slice_nil (P := Try.prog) W 22 3 a n c 0 0 Try.underlying22
  go_enter Try.func70, Try.ntmps70
  go_wp2
  go_ret
  exact ⟨_, rfl, Kd.R_nil (Kd.int .i64) 3 w w.heap.size _, Below.refl _ _⟩
section
variable {P : Program} {ops : Array Oper} {Q : Exit → Act → World → Prop}
theorem run_store_fn_ (P : Program) (w : World) (a : Addr) (m : Mode) (fn : Fn) (f c : Array Value) : (store a (.func fn f c) m).run P w = stored P w a (.func fn f c) m := run_store P w a _ m rfl
end
attribute [local go_sem] run_store_fn_
def gOn {α : Type} (st : List Int → List α → Option (List α)) (most : Int) : List Int → List Int → List α → Option (List α)
 | [], _, acc => some acc
 | x :: P, l, acc => if (l.length : Int) < most then (st (l ++ [x]) acc).bind fun a1 => (gOn st most P (l ++ [x]) a1).bind fun a => gOn st most P l a else some acc
def GpFr (g : Nat) (v v' : Value) (W w' : World) : Prop := W.heap.size ≤ w'.heap.size ∧ (∀ k, k < W.heap.size → k ≠ g → some k ≠ v.ownBlock → w'.heap[k]? = W.heap[k]?) ∧ (v'.ownBlock = v.ownBlock ∨ ∀ b, v'.ownBlock = some b → W.heap.size ≤ b)
theorem GpFr.below {g : Nat} {v : Value} {W w' : World} (h : Below W.heap.size W w') : GpFr g v v W w' := ⟨h.size, fun k hk _ _ => h.block k hk, .inl rfl⟩
theorem GpFr.ne {g k : Nat} {v v' : Value} {W w' : World} (h : GpFr g v v' W w') (hk : k < W.heap.size) (hv : some k ≠ v.ownBlock) : some k ≠ v'.ownBlock := by
 rcases h.2.2 with e | e
 ·rw [e]; exact hv
 ·intro h2
  have := e k h2.symm
  omega
theorem GpFr.trans {g : Nat} {v v1 v2 : Value} {W w1 w2 : World} (h : GpFr g v v1 W w1) (h' : GpFr g v1 v2 w1 w2) : GpFr g v v2 W w2 := by
 refine ⟨Nat.le_trans h.1 h'.1, fun k hk hg hv => (h'.2.1 k (Nat.lt_of_lt_of_le hk h.1) hg (h.ne hk hv)).trans (h.2.1 k hk hg hv), ?_⟩
 rcases h'.2.2 with e | e
 ·rcases h.2.2 with e1 | e1
  ·exact .inl (e.trans e1)
  ·exact .inr (fun b hb => e1 b (by rw [← e]; exact hb))
 ·exact .inr (fun b hb => Nat.le_trans h.1 (e b hb))
theorem GpFr.at_ {g k : Nat} {v v' : Value} {W w' : World} (h : GpFr g v v' W w') (hk : k < W.heap.size) (hg : k ≠ g) (hv : some k ≠ v.ownBlock) : w'.heap[k]? = W.heap[k]? := h.2.1 k hk hg hv
theorem GpFr.row {g : Nat} {v v' : Value} {W w' : World} (h : GpFr g v v' W w') {base : Nat} {u : Value} {l : List Int} (hr : (Kd.int .i64).R 3 W base (fun k => k ≠ g ∧ some k ≠ v.ownBlock) u l) : (Kd.int .i64).R 3 w' base (fun k => k ≠ g ∧ some k ≠ v'.ownBlock) u l :=
 Kd.R_mono (Kd.R_move (Kd.R_bound hr) (fun k hk => h.2.1 k hk.2.2.1 hk.1.1 hk.1.2)) (fun k hk => ⟨hk.1.1, h.ne hk.2.2.1 hk.1.2⟩)
structure GpSt {α : Type} (d : Kd α) (e tv : Nat) (g : Nat) (w0 W : World) (v : Value) (ok : Nat → Prop) (acc : List α) : Prop where
 out : W.heap[g]? = some (.cells #[v] tv (0, 0))
 row : Kd.S d e W w0.heap.size ok v acc
 bel : Below w0.heap.size w0 W
 ge : w0.heap.size ≤ g
section
variable {α : Type} {d : Kd α} {e tv : Nat}
theorem GpSt.up {g : Nat} {w0 W w' : World} {v : Value} {ok : Nat → Prop} {acc : List α} (h : GpSt d e tv g w0 W v ok acc) (hb : Below W.heap.size W w') : GpSt d e tv g w0 w' v ok acc := ⟨blk_below h.out hb, Kd.S_below h.row hb, bs_ h.bel hb, h.ge⟩
theorem GpSt.any {g : Nat} {w0 W : World} {v : Value} {ok : Nat → Prop} {acc : List α} (h : GpSt d e tv g w0 W v ok acc) : GpSt d e tv g w0 W v (fun _ => True) acc := ⟨h.out, Kd.S_mono h.row (fun _ _ => trivial), h.bel, h.ge⟩
theorem GpSt.old {g : Nat} {w0 W : World} {v u : Value} {ok : Nat → Prop} {acc : List α} (h : GpSt d e tv g w0 W v ok acc) (hu : ∀ k, u.ownBlock = some k → W.heap.size ≤ k) : GpSt d e tv g w0 W v (fun k => some k ≠ u.ownBlock) acc :=
 ⟨h.out, Kd.S_mono (Kd.S_bound h.row) (fun k hk e => by have := hu k e.symm; have := hk.2.2.1; omega), h.bel, h.ge⟩
theorem GpSt.new {g : Nat} {w0 W w' : World} {v u : Value} {ok ok2 : Nat → Prop} {acc : List α} {l : List Int} {n : Nat} (h : GpSt d e tv g w0 W v ok acc) (hn : W.heap.size ≤ n) (hr : (Kd.int .i64).R 3 w' n ok2 u l) : (Kd.int .i64).R 3 w' n (fun k => k ≠ g ∧ some k ≠ v.ownBlock) u l :=
 Kd.R_mono (Kd.R_bound hr) (fun k hk => ⟨fun e_ => by have := blk_lt h.out; have := hk.2.1; omega, fun e_ => by have := Kd.S_lt h.row k e_.symm; have := hk.2.1; omega⟩)
end
theorem gp_row {W : World} {base : Nat} {ok : Nat → Prop} {v : Value} {l : List Int} (h : (Kd.int .i64).R 3 W base ok v l) : ∃ A c, v = .slice A l.length c ∧ l.length ≤ c ∧ (Kd.int .i64).C W A l.length l := by
 obtain ⟨A, c, rfl⟩ := Kd.R_slice h
 obtain ⟨_, h1, h2⟩ := Kd.R_reads' h
 exact ⟨A, c, rfl, h1, h2⟩
theorem gp_at {W : World} {base : Nat} {ok : Nat → Prop} {ad : Addr} {n c : Nat} {P : List Int} (h : (Kd.int .i64).R 3 W base ok (.slice (some ad) n c) P) (i : Int) (h0 : 0 ≤ i) (h1 : i < (P.length : Int)) : W.cell? (ad.add i.toNat) = some (.int .i64 (rd P i)) := by
 obtain ⟨ad', e, hc⟩ := Kd.at_int (Kd.R_reads' h).2.2 i h0 h1
 cases e
 exact hc
theorem gp_some {W : World} {base : Nat} {ok : Nat → Prop} {Ap : Option Addr} {n c : Nat} {P : List Int} (h : (Kd.int .i64).R 3 W base ok (.slice Ap n c) P) (h1 : 0 < P.length) : ∃ ad, Ap = some ad := by
 obtain ⟨ad', e, -⟩ := Kd.at_int (Kd.R_reads' h).2.2 0 (by omega) (by omega)
 exact ⟨ad', e⟩
def gpB (Bp Bm Be Bo : Nat) : Array Value := #[.pointer (some ⟨Bp, 0, none⟩), .pointer (some ⟨Bm, 0, none⟩), .pointer (some ⟨Be, 0, none⟩), .pointer (some ⟨Bo, 0, none⟩)]
structure GpX (g : Nat) (Bp Bm Be Bo : Nat) (vp : Value) (most : Int) (ne : Nat) (eb : Array Value) (W : World) (v : Value) : Prop where
 p : W.heap[Bp]? = some (.cells #[vp] 22 (0, 0))
 m : W.heap[Bm]? = some (.cells #[.int .i64 most] 3 (0, 0))
 e : W.heap[Be]? = some (.cells #[.func (.func ne) #[] eb] 101 (0, 0))
 o : W.heap[Bo]? = some (.cells #[.func (.func 104) #[] (gpB Bp Bm Be Bo)] 111 (0, 0))
 aw : ∀ k, (k = Bp ∨ k = Bm ∨ k = Be ∨ k = Bo) → k ≠ g ∧ some k ≠ v.ownBlock
theorem GpX.up {g Bp Bm Be Bo ne : Nat} {vp v : Value} {most : Int} {eb : Array Value} {W w' : World} (h : GpX g Bp Bm Be Bo vp most ne eb W v) (hb : Below W.heap.size W w') : GpX g Bp Bm Be Bo vp most ne eb w' v :=
 ⟨blk_below h.p hb, blk_below h.m hb, blk_below h.e hb, blk_below h.o hb, h.aw⟩
theorem GpX.fr {g Bp Bm Be Bo ne : Nat} {vp v v' : Value} {most : Int} {eb : Array Value} {W w' : World} (h : GpX g Bp Bm Be Bo vp most ne eb W v) (hf : GpFr g v v' W w') : GpX g Bp Bm Be Bo vp most ne eb w' v' := by
 have a1 := h.aw Bp (.inl rfl)
 have a2 := h.aw Bm (.inr (.inl rfl))
 have a3 := h.aw Be (.inr (.inr (.inl rfl)))
 have a4 := h.aw Bo (.inr (.inr (.inr rfl)))
 refine ⟨(hf.at_ (blk_lt h.p) a1.1 a1.2).trans h.p, (hf.at_ (blk_lt h.m) a2.1 a2.2).trans h.m, (hf.at_ (blk_lt h.e) a3.1 a3.2).trans h.e, (hf.at_ (blk_lt h.o) a4.1 a4.2).trans h.o, ?_⟩
 rintro k (rfl | rfl | rfl | rfl)
 ·exact ⟨a1.1, hf.ne (blk_lt h.p) a1.2⟩
 ·exact ⟨a2.1, hf.ne (blk_lt h.m) a2.2⟩
 ·exact ⟨a3.1, hf.ne (blk_lt h.e) a3.2⟩
 ·exact ⟨a4.1, hf.ne (blk_lt h.o) a4.2⟩
def GpEach {α : Type} (d : Kd α) (e tv : Nat) (st : List Int → List α → Option (List α)) (g ne : Nat) (eb : Array Value) (w0 : World) : Prop :=
 ∀ (W : World) (v vL : Value) (l : List Int) (acc a1 : List α), GpSt d e tv g w0 W v (fun k => some k ≠ vL.ownBlock) acc → (Kd.int .i64).R 3 W w0.heap.size (fun k => k ≠ g ∧ some k ≠ v.ownBlock) vL l → st l acc = some a1 →
  Calls Try.prog ne (#[vL] ++ eb) W fun e_ w' => e_ = .returned (.tuple #[]) ∧ ∃ v', GpSt d e tv g w0 w' v' (fun _ => True) a1 ∧ GpFr g v v' W w'
def impl_groups_1.T3 : Bool × List (List Nat × List Nat) := (true, [([], []), ([0], [0]), ([], []), ([], []), ([2, 3], [2, 3]), ([4], [4]), ([5], [5]), ([1, 6, 1], [1, 6]), ([7, 7, 0, 1, 2, 3, 4, 5, 6, 7], [7])])
def impl_groups_1.B3 : List Nat := [0, 1, 0, 0, 12, 28, 60, 127, 255]
theorem impl_groups_1.T3_ : rtab .any (opsOf Try.f104 3) = impl_groups_1.T3 := by kernel_rfl
theorem impl_groups_1.B3_ : waitsOk impl_groups_1.T3.2 impl_groups_1.B3 = true := by kernel_rfl
theorem gp_on {α : Type} (d0 : Kd α) (e0 tv : Nat) (st : List Int → List α → Option (List α)) (g ne : Nat) (eb : Array Value) (w0 : World) (Bp Bm Be Bo : Nat) (Ap : Option Addr) (cp : Nat) (P : List Int) (most : Int) (ee : ∀ args w, (callFunc ne args).run Try.prog w = .ok (.enter ne args) w) (hE : GpEach d0 e0 tv st g ne eb w0) (hP : P.length ≤ 100) (d : Nat)
  (hI : ∀ (d' : Nat) (i : Nat) (l : List Int) (vL v : Value) (acc acc' : List α) (W : World), d' < d → i + d' = P.length → l.length + d' ≤ 200 → GpSt d0 e0 tv g w0 W v (fun _ => True) acc → (Kd.int .i64).R 3 W w0.heap.size (fun k => k ≠ g ∧ some k ≠ v.ownBlock) vL l → (Kd.int .i64).R 3 W w0.heap.size (fun k => k ≠ g ∧ some k ≠ v.ownBlock) (.slice Ap P.length cp) P → GpX g Bp Bm Be Bo (.slice Ap P.length cp) most ne eb W v → gOn st most (P.drop i) l acc = some acc' →
   Calls Try.prog 104 (#[.int .i64 (i : Int), vL] ++ gpB Bp Bm Be Bo) W fun e w' => e = .returned (.tuple #[]) ∧ ∃ v', GpSt d0 e0 tv g w0 w' v' (fun _ => True) acc' ∧ GpFr g v v' W w')
  (i : Nat) (l : List Int) (vL v : Value) (acc acc' : List α) (W : World) (hi : i + d = P.length) (hl : l.length + d ≤ 200) (hst : GpSt d0 e0 tv g w0 W v (fun _ => True) acc) (hr : (Kd.int .i64).R 3 W w0.heap.size (fun k => k ≠ g ∧ some k ≠ v.ownBlock) vL l) (hp : (Kd.int .i64).R 3 W w0.heap.size (fun k => k ≠ g ∧ some k ≠ v.ownBlock) (.slice Ap P.length cp) P) (hx : GpX g Bp Bm Be Bo (.slice Ap P.length cp) most ne eb W v) (h : gOn st most (P.drop i) l acc = some acc') :
  Calls Try.prog 104 (#[.int .i64 (i : Int), vL] ++ gpB Bp Bm Be Bo) W fun e w' => e = .returned (.tuple #[]) ∧ ∃ v', GpSt d0 e0 tv g w0 w' v' (fun _ => True) acc' ∧ GpFr g v v' W w' := by
 obtain ⟨A0, c0, rfl, hle, -⟩ := gp_row hr
 have ST := ak_ hst
 have RL := ak_ hr
 have PL := ak_ hp
 have GX := ak_ hx
 have FR := ak_ (GpFr.below (g := g) (v := v) (Below.refl W.heap.size W))
 have HE := ak_ hE
 have HM := ak_ (And.intro hl (And.intro hP (And.intro hle hi)))
 have H := ak_ h
 have HCl2 := ak_ fun (W1 : World) (ok1 : Nat → Prop) (h1 : (Kd.int .i64).R 3 W1 w0.heap.size ok1 (.slice A0 l.length c0) l) => slices_Clone_int_int.calls A0 c0 l l W1 (Kd.R_reads' h1).2.2 hle (by unfold slices_Clone_int_int.f; rw [if_pos (by omega)])
 unfold gpB at hI ⊢
 simp only [List.append_toArray, List.cons_append, List.nil_append] at hI
 have HI := ak_ hI
 have HX := ak_ fun (W : World) (v : Value) (h : GpX g Bp Bm Be Bo (.slice Ap P.length cp) most ne eb W v) => (show W.heap[Bo]? = some (.cells #[.func (.func 104) #[] #[.pointer (some ⟨Bp, 0, none⟩), .pointer (some ⟨Bm, 0, none⟩), .pointer (some ⟨Be, 0, none⟩), .pointer (some ⟨Bo, 0, none⟩)]] 111 (0, 0)) from h.o)
 clear hi hl hst hr hp hx h hE hP hle hI
 go_enter Try.func104, Try.ntmps104
 go_wp2
 go_loopg [8] d (fun gg v8 wr => ∃ (j : Nat) (a1 : List α) (v1 : Value), v8 = .int .i64 (j : Int) ∧ i ≤ j ∧ j ≤ P.length ∧ P.length - j ≤ gg ∧ Aside0 (gOn st most (P.drop j) l a1 = some acc') ∧ Aside0 (GpSt d0 e0 tv g w0 wr v1 (fun _ => True) a1) ∧ Aside0 ((Kd.int .i64).R 3 wr w0.heap.size (fun k => k ≠ g ∧ some k ≠ v1.ownBlock) (.slice A0 l.length c0) l) ∧ Aside0 ((Kd.int .i64).R 3 wr w0.heap.size (fun k => k ≠ g ∧ some k ≠ v1.ownBlock) (.slice Ap P.length cp) P) ∧ Aside0 (GpX g Bp Bm Be Bo (.slice Ap P.length cp) most ne eb wr v1) ∧ Aside0 (GpFr g v v1 W wr))
 case atStart => exact ⟨i, acc, v, rfl, Nat.le_refl _, by have := HM.out; omega, by have := HM.out; omega, H, ⟨ST.out.up be_⟩, ⟨Kd.R_below RL.out be_⟩, ⟨Kd.R_below PL.out be_⟩, ⟨GX.out.up be_⟩, ⟨FR.out.trans (GpFr.below be_)⟩⟩
 case round =>
  clear H ST RL PL GX FR
  obtain ⟨j, a1, v1, rfl, hij, hjP, hg, H, ST, RL, PL, GX, FR⟩ := hrel
  have hp0 := (blk_cell GX.out.p 0)
  have hm0 := (blk_cell GX.out.m 0)
  simp at hp0
  simp at hm0
  by_cases hlt : j < P.length
  ·have q1 : decide ((j : Int) < (P.length : Int)) = true := decide_eq_true (by omega)
   have q1n : decide (j < P.length) = true := decide_eq_true hlt
   have q1p : (j < P.length) = True := eq_true hlt
   have h := H.out
   rw [drop_at_i64 hlt] at h
   simp only [gOn] at h
   by_cases hlm : (l.length : Int) < most
   ·have q2 : decide ((l.length : Int) < most) = true := decide_eq_true hlm
    rw [if_pos hlm] at h
    obtain ⟨ad, rfl⟩ := gp_some PL.out (by omega)
    obtain ⟨a0, h0, h⟩ := Option.bind_eq_some_iff.mp h
    obtain ⟨a2, h1, h2⟩ := Option.bind_eq_some_iff.mp h
    have HA := ak_ h0
    have H1 := ak_ h1
    have H2 := ak_ h2
    have hw : IntKind.i64.wrap ((j : Int) + 1) = ((j + 1 : Nat) : Int) := by rw [IntWalk.i64_in _ ⟨by omega, by have := HM.out; omega⟩]; omega
    have HN := ak_ (And.intro hlt (And.intro hg hij))
    have j0 : (0 : Int) ≤ (j : Int) := by omega
    have j1 : (j : Int) < (P.length : Int) := by omega
    have J0 := ak_ j0
    have J1 := ak_ j1
    have j0e := eq_true j0
    have j1e := eq_true j1
    obtain ⟨x, hxe⟩ : ∃ x, x = rd P (j : Int) := ⟨_, rfl⟩
    have HXE := ak_ hxe
    clear h h0 h1 h2 hlt hlm hg hij hjP j0 j1 hxe H
    go_upto_region 3 with (fail)
    clear hp0 hm0
    try go_wp2
    have n0_ := ak_ (ST.out.up (below_drew (Below.refl _ _)))
    have n1_ := ak_ (Kd.R_drew RL.out)
    have n2_ := ak_ (Kd.R_drew PL.out)
    have n3_ := ak_ (GX.out.up (below_drew (Below.refl _ _)))
    have n4_ := ak_ (FR.out.trans (GpFr.below (below_drew (Below.refl _ _))))
    clear ST RL PL GX FR
    have ST := n0_; have RL := n1_; have PL := n2_; have GX := n3_; have FR := n4_
    clear n0_ n1_ n2_ n3_ n4_
    refine start_ (n := 9) (S := fun w' => w'.cell? ⟨Bp, 0, none⟩ = some (.slice (some ad) P.length cp) ∧ w'.cell? (ad.add j) = some (.int .i64 x)) (ds := [8]) (mb_ 9 0) (by kernel_rfl) rfl rfl ⟨(blk_cell GX.out.p 0).trans rfl, by have h_ := gp_at PL.out (j : Int) J0.out J1.out; rw [Int.toNat_natCast, ← HXE.out] at h_; exact h_⟩ (fun hHeld => ?_); refine with_tabW impl_groups_1.T3_ impl_groups_1.B3_ (fun HT_ HW_ => ?_)
    generalize wr.drew = w9 at ST RL PL GX FR hHeld ⊢
    refine pu_ 0 23 9 1 ?_
    refine tk_ 2 25 9 5 ?_ (hy := by rintro w' ⟨s0, s1⟩; go_simp; with_reducible rfl)
    refine pu_ 3 26 9 13 ?_
    refine pu_ 4 27 9 29 ?_
    refine tk_ 5 28 9 61 ?_ (hy := by rintro w' ⟨s0, s1⟩; go_simp; with_reducible rfl)
    refine join_ (σ := Value × Value) 2 (mb_ 9 127) (fun s_ => [(24, s_.1), (29, s_.2)]) (fun s_ w' => (w'.cell? ⟨Bp, 0, none⟩ = some (.slice (some ad) P.length cp) ∧ w'.cell? (ad.add j) = some (.int .i64 x)) ∧ (Kd.int .i64).R 3 w' w9.heap.size (fun _ => True) s_.1 l ∧ (∃ A c, s_.2 = .slice A 1 c ∧ (Kd.int .i64).C w' A 1 [x]) ∧ Below w9.heap.size w9 w') ?_ ?_
    rotate_left
    ·intro hCont
     refine two_ (i := 1) (j := 6) (Ni := some 24) (Nj := some 29) (mb_ 9 63) (mb_ 9 125) rfl rfl rfl rfl (two_of HT_.out (by kernel_rfl)) (by decide) (by decide) (fun K hK => ?_) (fun K hK => ?_)
     ·refine goes_ Try.func70 (by kernel_rfl) rfl #[.slice A0 l.length c0] (by rfl) rfl rfl rs_ ?_
      refine (HCl2.out _ _ RL.out).mono ?_
      rintro e w5 ⟨s1, rfl, hR0, hb0⟩
      have hR := ak_ hR0
      have hb3 := ak_ hb0
      have hb1 := ak_ hb0
      clear hR0 hb0
      refine ⟨_, rfl, ?_⟩
      refine hK.out _ _ ⟨(blk_cell (GX.out.up hb1.out).p 0).trans rfl, by have h_ := gp_at (Kd.R_below PL.out hb1.out) (j : Int) J0.out J1.out; rw [Int.toNat_natCast, ← HXE.out] at h_; exact h_⟩ (fun hHeld => ?_)
      clear hK K
      refine nm_ ?_
      clear hb3
      refine on_ 6 29 9 127 (fun K hK => ?_)
      refine Kd.R_lit_step (Kd.int .i64) _ 3 ?hg (N := 29) ?hd (xs := [x]) (inner := [.int .i64 x]) (ok := fun _ => True) (okp := fun _ => True) ?hr ?hp (fun _ hk => hk) trivial (Below.refl _ _) (Nat.le_refl _) (by simp) ?_; (case hd => rfl); (case hg => rfl); (case hr => go_simp <;> rfl); (case hp => exact (Reps.one (show Kd.M (Kd.int .i64) _ _ _ x [.int .i64 x] from rfl) (Reps.none _ _)))
      intro s2 w6 ho0 hb0 hg_ hnew_
      clear hg_ hnew_
      have hO := ak_ ho0
      have hb3 := ak_ hb0
      have hb2 := ak_ (bs_ hb1.out hb0)
      clear ho0 hb0
      refine hK.out _ _ ⟨(blk_cell (GX.out.up hb2.out).p 0).trans rfl, by have h_ := gp_at (Kd.R_below PL.out hb2.out) (j : Int) J0.out J1.out; rw [Int.toNat_natCast, ← HXE.out] at h_; exact h_⟩ (fun hHeld => ?_)
      clear hK K
      refine nm_ ?_
      exact norm_ (by simp only [putAll, Act.put, setIfInBounds_toArray, set_cons_zero, set_cons_succ]) (hCont (s1, s2) _ ⟨hHeld, Kd.R_below hR.out hb3.out, (by obtain ⟨A2, c2, rfl⟩ := Kd.R_slice hO.out; exact ⟨A2, c2, rfl, (Kd.R_reads' hO.out).2.2⟩), hb2.out⟩)
     ·refine Kd.R_lit_step (Kd.int .i64) _ 3 ?hg (N := 29) ?hd (xs := [x]) (inner := [.int .i64 x]) (ok := fun _ => True) (okp := fun _ => True) ?hr ?hp (fun _ hk => hk) trivial (Below.refl _ _) (Nat.le_refl _) (by simp) ?_; (case hd => rfl); (case hg => rfl); (case hr => go_simp <;> rfl); (case hp => exact (Reps.one (show Kd.M (Kd.int .i64) _ _ _ x [.int .i64 x] from rfl) (Reps.none _ _)))
      intro s2 w5 ho0 hb0 hg_ hnew_
      clear hg_ hnew_
      have hO := ak_ ho0
      have hb3 := ak_ hb0
      have hb1 := ak_ hb0
      clear ho0 hb0
      refine hK.out _ _ ⟨(blk_cell (GX.out.up hb1.out).p 0).trans rfl, by have h_ := gp_at (Kd.R_below PL.out hb1.out) (j : Int) J0.out J1.out; rw [Int.toNat_natCast, ← HXE.out] at h_; exact h_⟩ (fun hHeld => ?_)
      clear hK K
      refine nm_ ?_
      clear hb3
      refine on_ 1 24 9 127 (fun K hK => ?_)
      refine goes_ Try.func70 (by kernel_rfl) rfl #[.slice A0 l.length c0] (by rfl) rfl rfl rs_ ?_
      refine (HCl2.out _ _ (Kd.R_below RL.out hb1.out)).mono ?_
      rintro e w6 ⟨s1, rfl, hR0, hb0⟩
      have hR := ak_ hR0
      have hb3 := ak_ hb0
      have hb2 := ak_ (bs_ hb1.out hb0)
      clear hR0 hb0
      refine ⟨_, rfl, ?_⟩
      refine hK.out _ _ ⟨(blk_cell (GX.out.up hb2.out).p 0).trans rfl, by have h_ := gp_at (Kd.R_below PL.out hb2.out) (j : Int) J0.out J1.out; rw [Int.toNat_natCast, ← HXE.out] at h_; exact h_⟩ (fun hHeld => ?_)
      clear hK K
      refine nm_ ?_
      exact norm_ (by simp only [putAll, Act.put, setIfInBounds_toArray, set_cons_zero, set_cons_succ]) (hCont (s1, s2) _ ⟨hHeld, Kd.R_lower hR.out hb1.out.size, (by obtain ⟨A2, c2, rfl⟩ := Kd.R_slice (Kd.R_below hO.out hb3.out); exact ⟨A2, c2, rfl, (Kd.R_reads' (Kd.R_below hO.out hb3.out)).2.2⟩), hb2.out⟩)
    rintro ⟨s1, s2⟩ w2 ⟨hHeld, h1_, ⟨A2, c2, h2_, h3_⟩, h4_⟩
    dsimp only at h1_ h2_
    subst h2_
    have hR := ak_ h1_
    have hL := ak_ h3_
    have hB := ak_ h4_
    clear h1_ h3_ h4_
    refine norm_ (a' := ?_) ?_ ?_
    rotate_left
    ·simp only [putAll, Act.put, setIfInBounds_toArray, set_cons_zero, set_cons_succ]
     rfl
    refine on_ 7 30 9 255 (fun K hK => ?_)
    refine Kd.R_append_rows_step (Kd.int .i64) (w0 := w9) w9.heap.size (by rfl) (.tmp 24) (.tmp 29) 22 3 (.int .i64 0) 8 rfl Try.underlying22 info3 rfl (by decide) (by omega) s1 l [x] A2 1 c2 (fun _ => True) (fun _ => False) rfl rfl ?aO ?aR (fun _ _ h => h) (fun _ h => h.elim) ?aF ?aB ?aS ?aL ?_
    (case aO => exact hR.out)
    (case aR => exact hL.out)
    (case aB => exact hB.out)
    (case aF => exact (fun _ _ => trivial))
    (case aS => exact hB.out.size)
    (case aL => have := HM.out; omega)
    intro v3 w3 ho hb hg_ hat_
    clear hg_ hat_ hR hL hB
    have n0_ := ak_ ((ST.out.old (u := v3) (Kd.R_base ho)).up hb)
    have n1_ := ak_ (Kd.R_below RL.out hb)
    have n2_ := ak_ (Kd.R_below PL.out hb)
    have n3_ := ak_ (GX.out.up hb)
    have n4_ := ak_ (FR.out.trans (GpFr.below hb))
    have HO := ak_ (Kd.R_lower (ST.out.new (Nat.le_refl _) ho) (bz_ ST.out.bel))
    clear ST RL PL GX FR ho hb
    have ST := n0_; have RL := n1_; have PL := n2_; have GX := n3_; have FR := n4_
    clear n0_ n1_ n2_ n3_ n4_
    refine hK.out _ _ ⟨(blk_cell GX.out.p 0).trans rfl, by have h_ := gp_at PL.out (j : Int) J0.out J1.out; rw [Int.toNat_natCast, ← HXE.out] at h_; exact h_⟩ (fun hHeld => ?_)
    clear hK K
    refine nm_ ?_
    refine pu_ 8 9 9 511 ?_
    refine done_ (done_of HT_.out (by kernel_rfl)) ?_
    have he0 := (blk_cell GX.out.e 0)
    simp at he0
    go_upto_region 5 with (go_at_fn ne; refine (HE.out _ v1 v3 (l ++ [x]) a1 a0 ST.out HO.out (by rw [HXE.out]; exact HA.out)).mono ?_; rintro e w8 ⟨rfl, v5, hst5, hfr5⟩; replace ST := ak_ hst5; replace RL := ak_ (hfr5.row RL.out); replace PL := ak_ (hfr5.row PL.out); replace GX := ak_ (GX.out.fr hfr5); replace FR := ak_ (FR.out.trans hfr5); replace HO := ak_ (hfr5.row HO.out); clear hst5 hfr5)
    clear he0
    have ho0 := (blk_cell (HX.out _ _ GX.out) 0)
    simp at ho0
    go_wp2_with (refine (HI.out (P.length - (j + 1)) (j + 1) (l ++ [x]) v3 v5 a0 a2 _ (by have := HN.out; have := HM.out; omega) (by have := HN.out; omega) (by have := HM.out; have := HN.out; rw [List.length_append, List.length_singleton]; omega) (ST.out.up be_) (Kd.R_below HO.out be_) (Kd.R_below PL.out be_) (GX.out.up be_) (by rw [HXE.out]; exact H1.out)).mono ?_; rintro e w9 ⟨rfl, v6, hst6, hfr6⟩; replace ST := ak_ hst6; replace RL := ak_ (hfr6.row (Kd.R_below RL.out be_)); replace PL := ak_ (hfr6.row (Kd.R_below PL.out be_)); replace GX := ak_ ((GX.out.up be_).fr hfr6); replace FR := ak_ (FR.out.trans ((GpFr.below be_).trans hfr6)); clear HO hst6 hfr6)
    go_roundg (P.length - (j + 1))
    case measure => have := HN.out; omega
    case rel => exact ⟨j + 1, a2, v6, (ry_), by have := HN.out; omega, by have := HN.out; omega, Nat.le_refl _, H2, ⟨ST.out.up be_⟩, ⟨Kd.R_below RL.out be_⟩, ⟨Kd.R_below PL.out be_⟩, ⟨GX.out.up be_⟩, ⟨FR.out.trans (GpFr.below be_)⟩⟩
   ·have q2 : decide ((l.length : Int) < most) = false := decide_eq_false hlm
    rw [if_neg hlm] at h
    obtain rfl := Option.some.inj h
    clear h H hg hlm hlt hij hjP
    go_wp2
    go_end0
    first | exact ⟨rfl, ⟨v1, ST.out.up be_, FR.out.trans (GpFr.below be_)⟩⟩ | exact ⟨rfl, v1, ST.out.up be_, FR.out.trans (GpFr.below be_)⟩
  ·have q1 : decide ((j : Int) < (P.length : Int)) = false := decide_eq_false (by omega)
   have q1n : decide (j < P.length) = false := decide_eq_false hlt
   have q1p : (j < P.length) = False := eq_false hlt
   have h := H.out
   rw [List.drop_of_length_le (by omega)] at h
   obtain rfl := Option.some.inj (show some a1 = some acc' from h)
   clear h H hg hlt hij hjP
   go_wp2
   go_end0
   first | exact ⟨rfl, ⟨v1, ST.out.up be_, FR.out.trans (GpFr.below be_)⟩⟩ | exact ⟨rfl, v1, ST.out.up be_, FR.out.trans (GpFr.below be_)⟩
theorem gp_calls {α : Type} (d0 : Kd α) (e0 tv : Nat) (st : List Int → List α → Option (List α)) (g ne : Nat) (eb : Array Value) (w0 : World) (Bp Bm Be Bo : Nat) (Ap : Option Addr) (cp : Nat) (P : List Int) (most : Int) (ee : ∀ args w, (callFunc ne args).run Try.prog w = .ok (.enter ne args) w) (hE : GpEach d0 e0 tv st g ne eb w0) (hP : P.length ≤ 100) :
  ∀ (d : Nat) (i : Nat) (l : List Int) (vL v : Value) (acc acc' : List α) (W : World), i + d = P.length → l.length + d ≤ 200 → GpSt d0 e0 tv g w0 W v (fun _ => True) acc → (Kd.int .i64).R 3 W w0.heap.size (fun k => k ≠ g ∧ some k ≠ v.ownBlock) vL l → (Kd.int .i64).R 3 W w0.heap.size (fun k => k ≠ g ∧ some k ≠ v.ownBlock) (.slice Ap P.length cp) P → GpX g Bp Bm Be Bo (.slice Ap P.length cp) most ne eb W v → gOn st most (P.drop i) l acc = some acc' →
   Calls Try.prog 104 (#[.int .i64 (i : Int), vL] ++ gpB Bp Bm Be Bo) W fun e w' => e = .returned (.tuple #[]) ∧ ∃ v', GpSt d0 e0 tv g w0 w' v' (fun _ => True) acc' ∧ GpFr g v v' W w' := by
 intro d
 induction d using Nat.strongRecOn with
 | _ d ih => exact fun i l vL v acc acc' W h1 h2 h3 h4 h5 h6 h7 => gp_on d0 e0 tv st g ne eb w0 Bp Bm Be Bo Ap cp P most ee hE hP d (fun d' i l vL v acc acc' W hd k1 k2 k3 k4 k5 k6 k7 => ih d' hd i l vL v acc acc' W k1 k2 k3 k4 k5 k6 k7) i l vL v acc acc' W h1 h2 h3 h4 h5 h6 h7
theorem groups_calls {α : Type} (d0 : Kd α) (e0 tv : Nat) (st : List Int → List α → Option (List α)) (g ne : Nat) (eb : Array Value) (w0 : World) (Ap : Option Addr) (cp : Nat) (P : List Int) (most : Int) (ee : ∀ args w, (callFunc ne args).run Try.prog w = .ok (.enter ne args) w) (hE : GpEach d0 e0 tv st g ne eb w0) (hP : P.length ≤ 100)
  (v : Value) {acc0 : List α} (acc' : List α) (W : World) (hst : GpSt d0 e0 tv g w0 W v (fun _ => True) acc0) (hp : (Kd.int .i64).R 3 W w0.heap.size (fun k => k ≠ g ∧ some k ≠ v.ownBlock) (.slice Ap P.length cp) P) (h : gOn st most P [] acc0 = some acc') :
  Calls Try.prog 88 #[.slice Ap P.length cp, .int .i64 most, .func (.func ne) #[] eb] W fun e w' => e = .returned (.tuple #[]) ∧ ∃ v', GpSt d0 e0 tv g w0 w' v' (fun _ => True) acc' ∧ GpFr g v v' W w' := by
 have ST := ak_ hst
 have FR := ak_ (Below.refl W.heap.size W)
 have VB := ak_ fun k (hk : v.ownBlock = some k) => (show k < W.heap.size by obtain ⟨cells, hc⟩ := Kd.S_typed hst.row k hk; exact blk_lt hc)
 have HO := ak_ fun (W1 : World) (hb : Below W.heap.size W W1) (Bp Bm Be Bo : Nat) (hx : GpX g Bp Bm Be Bo (.slice Ap P.length cp) most ne eb W1 v) =>
  gp_calls d0 e0 tv st g ne eb w0 Bp Bm Be Bo Ap cp P most ee hE hP P.length 0 [] (.slice none 0 0) v acc0 acc' W1 (by omega) (by simp; omega) (hst.up hb) (Kd.R_nil _ _ _ _ _) (Kd.R_below hp hb) hx (by rw [List.drop_zero]; exact h)
 clear hst hp hE h hP
 unfold gpB at HO
 go_enter Try.func88, Try.ntmps88
 go_upto_region 3 with (first | ((with_reducible refine gate_dst (N := 3) rfl ?_); refine bx_ 3 #[.slice Ap P.length cp] 22 ?_; intro gb3 hg w3 hbox hb; have nb_ := ak_ (bs_ (by repeat (first | (with_reducible first | exact FR.out | apply ba_ | apply bN_ | apply b1_) | exact FR.out)) hb); have nc_ := ak_ hbox; have nd_ := ak_ ((by rw [hg]; exact (bz_ (by repeat (first | (with_reducible first | exact FR.out | apply ba_ | apply bN_ | apply b1_) | exact FR.out))) : W.heap.size ≤ gb3)); clear FR hb hbox hg; have FR := nb_; have BK3 := nc_; have GE3 := nd_; clear nb_ nc_ nd_; have hz3_0 := (blk_cell BK3.out 0); have hf3_0 := (blk_frozen BK3.out 0); simp at hz3_0; skip) | ((with_reducible refine gate_dst (N := 4) rfl ?_); refine bx_ 4 #[.int .i64 most] 3 ?_; intro gb4 hg w4 hbox hb; have n0_ := ak_ (blk_below (pk BK3.out) hb); have m0_ := ak_ ((by rw [hg]; exact Nat.ne_of_lt (blk_lt (pk BK3.out)) : gb3 ≠ gb4)); have nb_ := ak_ (bs_ (by repeat (first | (with_reducible first | exact FR.out | apply ba_ | apply bN_ | apply b1_) | exact FR.out)) hb); have nc_ := ak_ hbox; have nd_ := ak_ ((by rw [hg]; exact (bz_ (by repeat (first | (with_reducible first | exact FR.out | apply ba_ | apply bN_ | apply b1_) | exact FR.out))) : W.heap.size ≤ gb4)); clear FR hb hbox hg; clear BK3; have BK3 := n0_; have NE3_4 := m0_; have FR := nb_; have BK4 := nc_; have GE4 := nd_; clear nb_ nc_ nd_ n0_ m0_; have hz4_0 := (blk_cell BK4.out 0); have hf4_0 := (blk_frozen BK4.out 0); simp at hz4_0; skip) | ((with_reducible refine gate_dst (N := 5) rfl ?_); refine box_event ?hg (N := 5) ?hd (cs := #[.func (.func ne) #[] eb]) (t := 101) ?hr ?_; (case hd => rfl); (case hg => rfl); (case hr => go_simp <;> rfl); intro gb5 hg w5 hbox hb; have n0_ := ak_ (blk_below (pk BK3.out) hb); have m0_ := ak_ ((by rw [hg]; exact Nat.ne_of_lt (blk_lt (pk BK3.out)) : gb3 ≠ gb5)); have n1_ := ak_ (blk_below (pk BK4.out) hb); have m1_ := ak_ ((by rw [hg]; exact Nat.ne_of_lt (blk_lt (pk BK4.out)) : gb4 ≠ gb5)); have nb_ := ak_ (bs_ (by repeat (first | (with_reducible first | exact FR.out | apply ba_ | apply bN_ | apply b1_) | exact FR.out)) hb); have nc_ := ak_ hbox; have nd_ := ak_ ((by rw [hg]; exact (bz_ (by repeat (first | (with_reducible first | exact FR.out | apply ba_ | apply bN_ | apply b1_) | exact FR.out))) : W.heap.size ≤ gb5)); clear FR hb hbox hg; clear BK3 BK4; have BK3 := n0_; have NE3_5 := m0_; have BK4 := n1_; have NE4_5 := m1_; have FR := nb_; have BK5 := nc_; have GE5 := nd_; clear nb_ nc_ nd_ n0_ m0_ n1_ m1_; have hz5_0 := (blk_cell BK5.out 0); have hf5_0 := (blk_frozen BK5.out 0); simp at hz5_0; skip) | ((with_reducible refine gate_dst (N := 6) rfl ?_); refine bx_ 6 #[.nilFunc] 111 ?_; intro gb6 hg w6 hbox hb; have n0_ := ak_ (blk_below (pk BK3.out) hb); have m0_ := ak_ ((by rw [hg]; exact Nat.ne_of_lt (blk_lt (pk BK3.out)) : gb3 ≠ gb6)); have n1_ := ak_ (blk_below (pk BK4.out) hb); have m1_ := ak_ ((by rw [hg]; exact Nat.ne_of_lt (blk_lt (pk BK4.out)) : gb4 ≠ gb6)); have n2_ := ak_ (blk_below (pk BK5.out) hb); have m2_ := ak_ ((by rw [hg]; exact Nat.ne_of_lt (blk_lt (pk BK5.out)) : gb5 ≠ gb6)); have nb_ := ak_ (bs_ (by repeat (first | (with_reducible first | exact FR.out | apply ba_ | apply bN_ | apply b1_) | exact FR.out)) hb); have nc_ := ak_ hbox; have nd_ := ak_ ((by rw [hg]; exact (bz_ (by repeat (first | (with_reducible first | exact FR.out | apply ba_ | apply bN_ | apply b1_) | exact FR.out))) : W.heap.size ≤ gb6)); clear FR hb hbox hg; clear BK3 BK4 BK5; have BK3 := n0_; have NE3_6 := m0_; have BK4 := n1_; have NE4_6 := m1_; have BK5 := n2_; have NE5_6 := m2_; have FR := nb_; have BK6 := nc_; have GE6 := nd_; clear nb_ nc_ nd_ n0_ m0_ n1_ m1_ n2_ m2_; have hz6_0 := (blk_cell BK6.out 0); have hf6_0 := (blk_frozen BK6.out 0); simp at hz6_0; skip))
 have N1 := ak_ (blk_far (p := ⟨gb6, 0, none⟩) BK3.out NE3_6.out (.func (.func 104) #[] #[.pointer (some ⟨gb3, 0, none⟩), .pointer (some ⟨gb4, 0, none⟩), .pointer (some ⟨gb5, 0, none⟩), .pointer (some ⟨gb6, 0, none⟩)]))
 have N2 := ak_ (blk_far (p := ⟨gb6, 0, none⟩) BK4.out NE4_6.out (.func (.func 104) #[] #[.pointer (some ⟨gb3, 0, none⟩), .pointer (some ⟨gb4, 0, none⟩), .pointer (some ⟨gb5, 0, none⟩), .pointer (some ⟨gb6, 0, none⟩)]))
 have N3 := ak_ (blk_far (p := ⟨gb6, 0, none⟩) BK5.out NE5_6.out (.func (.func 104) #[] #[.pointer (some ⟨gb3, 0, none⟩), .pointer (some ⟨gb4, 0, none⟩), .pointer (some ⟨gb5, 0, none⟩), .pointer (some ⟨gb6, 0, none⟩)]))
 have N4 := ak_ (blk_put (cs' := #[.func (.func 104) #[] #[.pointer (some ⟨gb3, 0, none⟩), .pointer (some ⟨gb4, 0, none⟩), .pointer (some ⟨gb5, 0, none⟩), .pointer (some ⟨gb6, 0, none⟩)]]) BK6.out 0 (.func (.func 104) #[] #[.pointer (some ⟨gb3, 0, none⟩), .pointer (some ⟨gb4, 0, none⟩), .pointer (some ⟨gb5, 0, none⟩), .pointer (some ⟨gb6, 0, none⟩)]) rfl)
 have N5 := ak_ (below_set (v := .func (.func 104) #[] #[.pointer (some ⟨gb3, 0, none⟩), .pointer (some ⟨gb4, 0, none⟩), .pointer (some ⟨gb5, 0, none⟩), .pointer (some ⟨gb6, 0, none⟩)]) (j := 0) FR.out GE6.out)
 generalize hW5 : w6.setCell ⟨gb6, 0, none⟩ _ = W5 at N1 N2 N3 N4 N5 ⊢
 have hc0 := (blk_cell N4.out 0)
 simp at hc0
 have hx := HO.out W5 N5.out gb3 gb4 gb5 gb6 ⟨N1.out, N2.out, N3.out, N4.out, by
  have hlt_ := blk_lt ST.out.out
  rintro k (rfl | rfl | rfl | rfl)
  ·exact ⟨by have := GE3.out; omega, fun e => by have := VB.out _ e.symm; have := GE3.out; omega⟩
  ·exact ⟨by have := GE4.out; omega, fun e => by have := VB.out _ e.symm; have := GE4.out; omega⟩
  ·exact ⟨by have := GE5.out; omega, fun e => by have := VB.out _ e.symm; have := GE5.out; omega⟩
  ·exact ⟨by have := GE6.out; omega, fun e => by have := VB.out _ e.symm; have := GE6.out; omega⟩⟩
 simp only [List.append_toArray, List.cons_append, List.nil_append] at hx
 have HX := ak_ hx
 clear hx hW5 HO BK3 BK4 BK5 BK6 N1 N2 N3 N4
 go_wp2_with (refine HX.out.mono ?_; rintro e w8 ⟨rfl, v', h1, h2⟩; have H1 := ak_ h1; have H2 := ak_ h2; clear h1 h2)
 go_end0
 exact ⟨rfl, v', H1.out, (GpFr.below N5.out).trans H2.out⟩
def impl_State_side.l0 : Nat → Bool → List Int → List Bool → Int → Int → Option (List Int)
 | 0, _, _, _, _, _ => none
 | k + 1, x1, x5, x10, x11, x12 => if x12 < x11 then (if 0 ≤ x12 then (if x12 < (x10.length : Int) then (if ((rdOf false x10 x12) == x1) = true then (if x5.length < 17592186044416 then (impl_State_side.l0 k x1 (x5 ++ [x12]) x10 x11 (wrap64 (x12 + 1))) else (none)) else (impl_State_side.l0 k x1 x5 x10 x11 (wrap64 (x12 + 1)))) else (none)) else (none)) else (some x5)
def impl_State_side.f (k : Nat) (l0_0 : List Bool) (a0_1 : Bool) (a1 : Bool) : Option (List Int) := impl_State_side.l0 k a1 (([] : List Int)) l0_0 (l0_0.length : Int) 0
theorem impl_State_side.calls (k : Nat) (A0_0 : Option Addr) (c0_0 : Nat) (l0_0 : List Bool) (a0_1 : Bool) (a1 : Bool) (r : List Int) (w : World) (hr0_0 : Kd.C Kd.bool w A0_0 l0_0.length l0_0) (hc0_0 : l0_0.length ≤ c0_0) (h : impl_State_side.f k l0_0 a0_1 a1 = some r) :
  Calls Try.prog 89 #[.agg #[.slice A0_0 l0_0.length c0_0, .bool a0_1], .bool a1] w fun e w' => ∃ v0_ : Value, e = .returned (v0_) ∧ Kd.R (Kd.int .i64) 3 w' w.heap.size (fun _ => True) v0_ r ∧ Below w.heap.size w w' := by
 have hu94 := Try.underlying94
 have HR0_0 := ak_ hr0_0
 have HC0_0 := ak_ hc0_0
 clear hr0_0 hc0_0
 have HB := ak_ (Below.refl w.heap.size w)
 have H : (impl_State_side.l0 k a1 (([] : List Int)) l0_0 (l0_0.length : Int) 0) = some r := h
 clear h
 obtain ⟨y392, hy392⟩ : ∃ y_ : List Int, y_ = (([] : List Int)) := ⟨_, rfl⟩
 replace H : (impl_State_side.l0 k a1 y392 l0_0 (l0_0.length : Int) 0) = some r := by first | (rw [hy392]; exact H) | exact H
 have Ny392 := ak_ hy392
 clear hy392
 have H' := ak_ H
 clear H
 go_enter Try.func89, Try.ntmps89
 go_wp2_with (first | ((with_reducible refine gate_dst (N := 2) rfl ?_); refine bx_ 2 #[.slice A0_0 l0_0.length c0_0, .bool a0_1] 94 ?_; intro gb391 hg w3 hbox hb; have BK391 := ak_ (hbox); have GW391 := ak_ ((by rw [hg]; exact (bz_ (bb_ HB.out)) : w.heap.size ≤ gb391)); replace HB := ak_ (bs_ (bb_ HB.out) hb); have GE391 := GW391; clear hb hbox hg) | ((with_reducible refine gate_dst (N := 8) rfl ?_); refine Kd.R_lit (Kd.int .i64) _ 3 ?hg (N := 8) ?hd (xs := ([] : List Int)) (inner := []) (ok := fun _ => True) (okp := fun _ => True) ?hr ?hp (fun _ hk => hk) trivial (Below.refl _ _) (Nat.le_refl _) (by simp) ?_; (case hd => rfl); (case hg => rfl); (case hr => go_simp <;> rfl); (case hp => exact (Reps.none _ _)); intro v393 w4 ho5 hb hg_ hnew_; clear hg_ hnew_; (first | rw [← Ny392.out] at ho5 | (simp only [Int.reduceToNat] at ho5; rw [← Ny392.out] at ho5)); have HO394 := ak_ (Kd.R_lower ho5 (bz_ bl_)); replace BK391 := ak_ (blk_below (pk BK391.out) hb); replace HB := ak_ (bs_ bl_ hb); clear hb ho5; obtain ⟨hcz6_0, hcz6_1, hfz6_0, hfz6_1⟩ := c2_ BK391.out))
 go_loopg [5, 12] k (fun kq v5 v12 w' => ∃ (x5_1 : List Int) (x12_1 : Int), v12 = .int .i64 x12_1 ∧ Aside0 (impl_State_side.l0 kq a1 x5_1 l0_0 (l0_0.length : Int) x12_1 = some r) ∧ Aside0 (kq ≤ k) ∧ Aside0 (Kd.R (Kd.int .i64) 3 w' w.heap.size (fun _ => True) v5 x5_1) ∧ Aside0 (w'.heap[gb391]? = some (.cells #[(.slice A0_0 l0_0.length c0_0), .bool a0_1] 94 (0, 0))) ∧ Aside0 (Below w.heap.size w w'))
 case atStart => exact ⟨(y392), (0), (ry_), H', ⟨Nat.le_refl _⟩, ⟨Kd.pR HO394.out⟩, ⟨pk BK391.out⟩, ⟨bl_⟩⟩
 case round =>
  clear H'
  try clear p2
  try clear hcz6_0
  try clear hcz6_1
  try clear hfz6_0
  try clear hfz6_1
  obtain ⟨x5_1, x12_1, rfl, HA, HK1, HO_5, BK391, HB⟩ := hrel
  cases gk with
  | zero => exact absurd HA.out (by simp [impl_State_side.l0])
  | succ k1 =>
   have H := HA.out
   clear HA
   simp only [impl_State_side.l0] at H
   by_cases c7 : x12_1 < (l0_0.length : Int)
   ·
    rw [if_pos c7] at H
    have c7b0 := decide_eq_true c7
    clear c7
    by_cases c8 : 0 ≤ x12_1
    ·
     rw [if_pos c8] at H
     have c8b0 := decide_eq_true c8
     clear c8
     by_cases c9 : x12_1 < (l0_0.length : Int)
     ·
      rw [if_pos c9] at H
      have c9b0 := decide_eq_true c9
      clear c9
      by_cases c10 : ((rdOf false l0_0 x12_1) == a1) = true
      ·
       rw [if_pos c10] at H
       have c10b0 : ((rdOf false l0_0 x12_1) == a1) = true := c10
       (try (have c10b1 : decide ((rdOf false l0_0 x12_1) = a1) = true := by simpa using c10))
       (try (have c10b2 : ((rdOf false l0_0 x12_1) == a1) = true := by simpa using c10))
       clear c10
       by_cases c11 : x5_1.length < 17592186044416
       ·
        rw [if_pos c11] at H
        have LMc11 := ak_ c11
        clear c11
        obtain ⟨y396, hy396⟩ : ∃ y_ : List Int, y_ = (x5_1 ++ [x12_1]) := ⟨_, rfl⟩
        replace H : (impl_State_side.l0 k1 a1 y396 l0_0 (l0_0.length : Int) (wrap64 (x12_1 + 1))) = some r := by first | (rw [hy396]; exact H) | exact H
        have Ny396 := ak_ hy396
        clear hy396
        have H' := ak_ H
        clear H
        have p395 : 0 ≤ (x12_1 : Int) := od_
        have q395 : x12_1 < (l0_0.length : Int) := od_
        obtain ⟨ad395, e395, hx395_0⟩ := Kd.at_bool HR0_0.out x12_1 p395 q395
        cases e395
        try replace hx395_0 := (HB.out.cell (World.block_lt_of_cell? w _ hx395_0)).trans hx395_0
        replace p395 := eq_true p395
        replace q395 := eq_true q395
        go_wp2_with (first | ((with_reducible refine gate_builtin (b := .append) (xs := #[.tmp 20, .tmp 22]) rfl ?_); at_builtin; refine Kd.R_append (Kd.int .i64) (w0 := w) w.heap.size rfl (.tmp 20) (.tmp 22) 22 3 (.int .i64 0) 8 rfl Try.underlying22 info3 rfl (by decide) (by omega) u5 x5_1 x12_1 [.int .i64 x12_1] (fun _ => True) (fun _ => False) rfl rfl ?aP (fun _ hk => hk.elim) ?aF ?aO ?aB ?aS ?aL ?_; (case aP => exact rfl); (case aB => exact bl_); (case aF => exact (fun _ _ => trivial)); (case aO => exact (Kd.pR HO_5.out)); (case aS => exact (bz_ bl_)); (case aL => have := LMc11.out; omega); intro v397 w12 ho hb hg hat; rw [← Ny396.out] at ho; replace BK391 := ak_ (blk_grown (pk BK391.out) hg (Kd.R_ne HO_5.out BK391.out (by decide))); replace HB := ak_ (hb); have HO398 := ak_ (ho); clear HO_5; clear ho hb hg hat))
        go_roundg k1
        case measure => have := HK1.out; omega
        case rel => exact ⟨(y396), (wrap64 (x12_1 + 1)), (ry_), H', ⟨by have := HK1.out; omega⟩, ⟨Kd.pR HO398.out⟩, ⟨pk BK391.out⟩, ⟨bl_⟩⟩
       ·
        rw [if_neg c11] at H
        exact absurd H (by simp)
      ·
       rw [if_neg c10] at H
       have c10b0 : ((rdOf false l0_0 x12_1) == a1) = false := by simpa using c10
       (try (have c10b1 : decide ((rdOf false l0_0 x12_1) = a1) = false := by simpa using c10))
       (try (have c10b2 : ((rdOf false l0_0 x12_1) == a1) = false := by simpa using c10))
       (try (have c10b3 : ¬ ((rdOf false l0_0 x12_1) = a1) := by simpa using c10))
       clear c10
       have H' := ak_ H
       clear H
       have p395 : 0 ≤ (x12_1 : Int) := od_
       have q395 : x12_1 < (l0_0.length : Int) := od_
       obtain ⟨ad395, e395, hx395_0⟩ := Kd.at_bool HR0_0.out x12_1 p395 q395
       cases e395
       try replace hx395_0 := (HB.out.cell (World.block_lt_of_cell? w _ hx395_0)).trans hx395_0
       replace p395 := eq_true p395
       replace q395 := eq_true q395
       go_wp2
       go_roundg k1
       case measure => have := HK1.out; omega
       case rel => exact ⟨(x5_1), (wrap64 (x12_1 + 1)), (ry_), H', ⟨by have := HK1.out; omega⟩, ⟨Kd.pR HO_5.out⟩, ⟨pk BK391.out⟩, ⟨bl_⟩⟩
     ·
      rw [if_neg c9] at H
      exact absurd H (by simp)
    ·
     rw [if_neg c8] at H
     exact absurd H (by simp)
   ·
    rw [if_neg c7] at H
    have c7b0 := decide_eq_false c7
    clear c7
    obtain rfl := Option.some.inj H
    go_wp2
    go_ret
    exact ⟨_, rx_, by (with_reducible repeat (first | apply Kd.R_alloc | apply Kd.R_drewN | apply Kd.R_drew)); exact HO_5.out, bl_⟩
def cmp_isNaN_int.f (a0 : Int) : Option (Bool) := some (a0 != a0)
theorem cmp_isNaN_int.calls (a0 : Int) (r : Bool) (w : World) (h : cmp_isNaN_int.f a0 = some r) :
  Calls Try.prog 123 #[.int .i64 a0] w fun e w' => e = .returned (.bool r) ∧ Drawn0 w w' := by
 have H : (some (a0 != a0)) = some r := h
 clear h
 obtain rfl := Option.some.inj H
 go_enter Try.func123, Try.ntmps123
 go_wp2
 go_ret
 exact ⟨ry_, by repeat (first | exact Drawn0.refl _ | apply Drawn0.step)⟩
def cmp_Compare_int.f (a0 : Int) (a1 : Int) : Option (Int) := (cmp_isNaN_int.f a0).bind fun t399 => ((cmp_isNaN_int.f a1).bind fun t400 => (if t399 = true then (if t400 = true then (some 0) else (some (-1))) else (if t400 = true then (some 1) else (if a0 < a1 then (some (-1)) else (if a0 > a1 then (some 1) else (some 0))))))
theorem cmp_Compare_int.calls (a0 : Int) (a1 : Int) (r : Int) (w : World) (h : cmp_Compare_int.f a0 a1 = some r) :
  Calls Try.prog 107 #[.int .i64 a0, .int .i64 a1] w fun e w' => e = .returned (.int .i64 r) ∧ Drawn0 w w' := by
 have H : ((cmp_isNaN_int.f a0).bind fun t399 => ((cmp_isNaN_int.f a1).bind fun t400 => (if t399 = true then (if t400 = true then (some 0) else (some (-1))) else (if t400 = true then (some 1) else (if a0 < a1 then (some (-1)) else (if a0 > a1 then (some 1) else (some 0))))))) = some r := h
 clear h
 replace H := Option.bind_eq_some_iff.mp H
 obtain ⟨t399, A30, H⟩ := H
 replace H : ((cmp_isNaN_int.f a1).bind fun t400 => (if t399 = true then (if t400 = true then (some 0) else (some (-1))) else (if t400 = true then (some 1) else (if a0 < a1 then (some (-1)) else (if a0 > a1 then (some 1) else (some 0)))))) = some r := H
 have A3 := ak_ A30
 clear A30
 replace H := Option.bind_eq_some_iff.mp H
 obtain ⟨t400, A40, H⟩ := H
 replace H : (if t399 = true then (if t400 = true then (some 0) else (some (-1))) else (if t400 = true then (some 1) else (if a0 < a1 then (some (-1)) else (if a0 > a1 then (some 1) else (some 0))))) = some r := H
 have A4 := ak_ A40
 clear A40
 by_cases c5 : t399 = true
 ·
  subst c5
  have H1 : (if t400 = true then (some 0) else (some (-1))) = some r := by rw [if_pos rfl] at H; exact H
  clear H
  have H := H1
  clear H1
  by_cases c6 : t400 = true
  ·
   subst c6
   have H1 : (some 0) = some r := by rw [if_pos rfl] at H; exact H
   clear H
   have H := H1
   clear H1
   obtain rfl := Option.some.inj H
   go_enter Try.func107, Try.ntmps107
   go_wp2_with (first | ((with_reducible refine gate_callee (f := 123) rfl ?_); refine goesL_ (some 8) rfl rfl Try.func123 (by kernel_rfl) rfl #[.int .i64 a0] rfl rs_ ?_; (with_reducible refine (cmp_isNaN_int.calls a0 true _ A3.out).mono ?_); rintro e w' ⟨rfl, ⟨nd, rfl⟩⟩; refine ⟨_, rfl, ?_⟩) | ((with_reducible refine gate_callee (f := 123) rfl ?_); refine goesL_ (some 10) rfl rfl Try.func123 (by kernel_rfl) rfl #[.int .i64 a1] rfl rs_ ?_; (with_reducible refine (cmp_isNaN_int.calls a1 true _ A4.out).mono ?_); rintro e w' ⟨rfl, ⟨nd, rfl⟩⟩; refine ⟨_, rfl, ?_⟩))
   go_ret
   exact ⟨ry_, by repeat (first | exact Drawn0.refl _ | apply Drawn0.step)⟩
  ·
   replace c6 := Bool.eq_false_iff.mpr c6
   subst c6
   have H1 : (some (-1)) = some r := by rw [if_neg (show ¬ (false = true) by decide)] at H; exact H
   clear H
   have H := H1
   clear H1
   obtain rfl := Option.some.inj H
   go_enter Try.func107, Try.ntmps107
   go_wp2_with (first | ((with_reducible refine gate_callee (f := 123) rfl ?_); refine goesL_ (some 8) rfl rfl Try.func123 (by kernel_rfl) rfl #[.int .i64 a0] rfl rs_ ?_; (with_reducible refine (cmp_isNaN_int.calls a0 true _ A3.out).mono ?_); rintro e w' ⟨rfl, ⟨nd, rfl⟩⟩; refine ⟨_, rfl, ?_⟩) | ((with_reducible refine gate_callee (f := 123) rfl ?_); refine goesL_ (some 10) rfl rfl Try.func123 (by kernel_rfl) rfl #[.int .i64 a1] rfl rs_ ?_; (with_reducible refine (cmp_isNaN_int.calls a1 false _ A4.out).mono ?_); rintro e w' ⟨rfl, ⟨nd, rfl⟩⟩; refine ⟨_, rfl, ?_⟩))
   go_ret
   exact ⟨ry_, by repeat (first | exact Drawn0.refl _ | apply Drawn0.step)⟩
 ·
  replace c5 := Bool.eq_false_iff.mpr c5
  subst c5
  have H1 : (if t400 = true then (some 1) else (if a0 < a1 then (some (-1)) else (if a0 > a1 then (some 1) else (some 0)))) = some r := by rw [if_neg (show ¬ (false = true) by decide)] at H; exact H
  clear H
  have H := H1
  clear H1
  by_cases c7 : t400 = true
  ·
   subst c7
   have H1 : (some 1) = some r := by rw [if_pos rfl] at H; exact H
   clear H
   have H := H1
   clear H1
   obtain rfl := Option.some.inj H
   go_enter Try.func107, Try.ntmps107
   go_wp2_with (first | ((with_reducible refine gate_callee (f := 123) rfl ?_); refine goesL_ (some 8) rfl rfl Try.func123 (by kernel_rfl) rfl #[.int .i64 a0] rfl rs_ ?_; (with_reducible refine (cmp_isNaN_int.calls a0 false _ A3.out).mono ?_); rintro e w' ⟨rfl, ⟨nd, rfl⟩⟩; refine ⟨_, rfl, ?_⟩) | ((with_reducible refine gate_callee (f := 123) rfl ?_); refine goesL_ (some 10) rfl rfl Try.func123 (by kernel_rfl) rfl #[.int .i64 a1] rfl rs_ ?_; (with_reducible refine (cmp_isNaN_int.calls a1 true _ A4.out).mono ?_); rintro e w' ⟨rfl, ⟨nd, rfl⟩⟩; refine ⟨_, rfl, ?_⟩))
   go_ret
   exact ⟨ry_, by repeat (first | exact Drawn0.refl _ | apply Drawn0.step)⟩
  ·
   replace c7 := Bool.eq_false_iff.mpr c7
   subst c7
   have H1 : (if a0 < a1 then (some (-1)) else (if a0 > a1 then (some 1) else (some 0))) = some r := by rw [if_neg (show ¬ (false = true) by decide)] at H; exact H
   clear H
   have H := H1
   clear H1
   by_cases c8 : a0 < a1
   ·
    rw [if_pos c8] at H
    have c8b0 := decide_eq_true c8
    clear c8
    obtain rfl := Option.some.inj H
    go_enter Try.func107, Try.ntmps107
    go_wp2_with (first | ((with_reducible refine gate_callee (f := 123) rfl ?_); refine goesL_ (some 8) rfl rfl Try.func123 (by kernel_rfl) rfl #[.int .i64 a0] rfl rs_ ?_; (with_reducible refine (cmp_isNaN_int.calls a0 false _ A3.out).mono ?_); rintro e w' ⟨rfl, ⟨nd, rfl⟩⟩; refine ⟨_, rfl, ?_⟩) | ((with_reducible refine gate_callee (f := 123) rfl ?_); refine goesL_ (some 10) rfl rfl Try.func123 (by kernel_rfl) rfl #[.int .i64 a1] rfl rs_ ?_; (with_reducible refine (cmp_isNaN_int.calls a1 false _ A4.out).mono ?_); rintro e w' ⟨rfl, ⟨nd, rfl⟩⟩; refine ⟨_, rfl, ?_⟩))
    go_ret
    exact ⟨ry_, by repeat (first | exact Drawn0.refl _ | apply Drawn0.step)⟩
   ·
    rw [if_neg c8] at H
    have c8b0 := decide_eq_false c8
    clear c8
    by_cases c9 : a0 > a1
    ·
     rw [if_pos c9] at H
     have c9b0 : decide (a1 < a0) = true := decide_eq_true c9
     clear c9
     obtain rfl := Option.some.inj H
     go_enter Try.func107, Try.ntmps107
     go_wp2_with (first | ((with_reducible refine gate_callee (f := 123) rfl ?_); refine goesL_ (some 8) rfl rfl Try.func123 (by kernel_rfl) rfl #[.int .i64 a0] rfl rs_ ?_; (with_reducible refine (cmp_isNaN_int.calls a0 false _ A3.out).mono ?_); rintro e w' ⟨rfl, ⟨nd, rfl⟩⟩; refine ⟨_, rfl, ?_⟩) | ((with_reducible refine gate_callee (f := 123) rfl ?_); refine goesL_ (some 10) rfl rfl Try.func123 (by kernel_rfl) rfl #[.int .i64 a1] rfl rs_ ?_; (with_reducible refine (cmp_isNaN_int.calls a1 false _ A4.out).mono ?_); rintro e w' ⟨rfl, ⟨nd, rfl⟩⟩; refine ⟨_, rfl, ?_⟩))
     go_ret
     exact ⟨ry_, by repeat (first | exact Drawn0.refl _ | apply Drawn0.step)⟩
    ·
     rw [if_neg c9] at H
     have c9b0 : decide (a1 < a0) = false := decide_eq_false c9
     clear c9
     obtain rfl := Option.some.inj H
     go_enter Try.func107, Try.ntmps107
     go_wp2_with (first | ((with_reducible refine gate_callee (f := 123) rfl ?_); refine goesL_ (some 8) rfl rfl Try.func123 (by kernel_rfl) rfl #[.int .i64 a0] rfl rs_ ?_; (with_reducible refine (cmp_isNaN_int.calls a0 false _ A3.out).mono ?_); rintro e w' ⟨rfl, ⟨nd, rfl⟩⟩; refine ⟨_, rfl, ?_⟩) | ((with_reducible refine gate_callee (f := 123) rfl ?_); refine goesL_ (some 10) rfl rfl Try.func123 (by kernel_rfl) rfl #[.int .i64 a1] rfl rs_ ?_; (with_reducible refine (cmp_isNaN_int.calls a1 false _ A4.out).mono ?_); rintro e w' ⟨rfl, ⟨nd, rfl⟩⟩; refine ⟨_, rfl, ?_⟩))
     go_ret
     exact ⟨ry_, by repeat (first | exact Drawn0.refl _ | apply Drawn0.step)⟩
def slices_Compare_int_int.l0 : Nat → List Int → List Int → List Int → Int → Int → Option (Int)
 | 0, _, _, _, _, _ => none
 | k + 1, x0, x1, x9, x10, x11 => if x11 < x10 then (if 0 ≤ x11 then (if x11 < (x9.length : Int) then (if x11 ≥ (x1.length : Int) then (some 1) else (if x11 < (x1.length : Int) then ((cmp_Compare_int.f (rd x9 x11) (rd x1 x11)).bind fun t403 => (if t403 = 0 then (slices_Compare_int_int.l0 k x0 x1 x9 x10 (wrap64 (x11 + 1))) else (some t403))) else (none))) else (none)) else (none)) else (if (x0.length : Int) < (x1.length : Int) then (some (-1)) else (some 0))
def slices_Compare_int_int.f (k : Nat) (l0 : List Int) (l1 : List Int) : Option (Int) := slices_Compare_int_int.l0 k l0 l1 l0 (l0.length : Int) 0
theorem slices_Compare_int_int.calls (k : Nat) (A0 : Option Addr) (c0 : Nat) (l0 : List Int) (A1 : Option Addr) (c1 : Nat) (l1 : List Int) (r : Int) (w : World) (hr0 : Kd.C (Kd.int .i64) w A0 l0.length l0) (hc0 : l0.length ≤ c0) (hr1 : Kd.C (Kd.int .i64) w A1 l1.length l1) (hc1 : l1.length ≤ c1) (h : slices_Compare_int_int.f k l0 l1 = some r) :
  Calls Try.prog 92 #[.slice A0 l0.length c0, .slice A1 l1.length c1] w fun e w' => e = .returned (.int .i64 r) ∧ Drawn0 w w' := by
 have HR0 := ak_ hr0
 have HC0 := ak_ hc0
 clear hr0 hc0
 have HR1 := ak_ hr1
 have HC1 := ak_ hc1
 clear hr1 hc1
 have H : (slices_Compare_int_int.l0 k l0 l1 l0 (l0.length : Int) 0) = some r := h
 clear h
 have H' := ak_ H
 clear H
 go_enter Try.func92, Try.ntmps92
 go_wp2
 go_loopg [11] k (fun kq v11 w' => ∃ (x11_1 : Int), v11 = .int .i64 x11_1 ∧ Aside0 (slices_Compare_int_int.l0 kq l0 l1 l0 (l0.length : Int) x11_1 = some r) ∧ Aside0 (kq ≤ k) ∧ Drawn0 w w')
 case atStart => exact ⟨(0), (ry_), H', ⟨Nat.le_refl _⟩, by repeat (first | exact Drawn0.refl _ | apply Drawn0.step)⟩
 case round =>
  clear H'
  try clear c1
  try clear p2
  obtain ⟨x11_1, rfl, HA, HK1, ⟨m1, rfl⟩⟩ := hrel
  cases gk with
  | zero => exact absurd HA.out (by simp [slices_Compare_int_int.l0])
  | succ k1 =>
   have H := HA.out
   clear HA
   simp only [slices_Compare_int_int.l0] at H
   by_cases c3 : x11_1 < (l0.length : Int)
   ·
    rw [if_pos c3] at H
    have c3b0 := decide_eq_true c3
    clear c3
    by_cases c4 : 0 ≤ x11_1
    ·
     rw [if_pos c4] at H
     have c4b0 := decide_eq_true c4
     clear c4
     by_cases c5 : x11_1 < (l0.length : Int)
     ·
      rw [if_pos c5] at H
      have c5b0 := decide_eq_true c5
      clear c5
      by_cases c6 : x11_1 ≥ (l1.length : Int)
      ·
       rw [if_pos c6] at H
       have c6b0 : decide ((l1.length : Int) ≤ x11_1) = true := decide_eq_true c6
       clear c6
       obtain rfl := Option.some.inj H
       have p401 : 0 ≤ (x11_1 : Int) := od_
       have q401 : x11_1 < (l0.length : Int) := od_
       obtain ⟨ad401, e401, hx401_0⟩ := Kd.at_int HR0.out x11_1 p401 q401
       cases e401
       replace p401 := eq_true p401
       replace q401 := eq_true q401
       go_wp2
       go_ret
       exact ⟨ry_, by repeat (first | exact Drawn0.refl _ | apply Drawn0.step)⟩
      ·
       rw [if_neg c6] at H
       have c6b0 : decide ((l1.length : Int) ≤ x11_1) = false := decide_eq_false c6
       clear c6
       by_cases c7 : x11_1 < (l1.length : Int)
       ·
        rw [if_pos c7] at H
        have c7b0 := decide_eq_true c7
        clear c7
        replace H := Option.bind_eq_some_iff.mp H
        obtain ⟨t403, A80, H⟩ := H
        replace H : (if t403 = 0 then (slices_Compare_int_int.l0 k1 l0 l1 l0 (l0.length : Int) (wrap64 (x11_1 + 1))) else (some t403)) = some r := H
        have A8 := ak_ A80
        clear A80
        by_cases c9 : t403 = 0
        ·
         rw [if_pos c9] at H
         have c9b0 : (t403 == 0) = true := beq_iff_eq.mpr c9
         have c9b1 : (t403 != 0) = false := bne_eq_false_iff_eq.mpr c9
         clear c9
         have H' := ak_ H
         clear H
         have p401 : 0 ≤ (x11_1 : Int) := od_
         have q401 : x11_1 < (l0.length : Int) := od_
         obtain ⟨ad401, e401, hx401_0⟩ := Kd.at_int HR0.out x11_1 p401 q401
         cases e401
         replace p401 := eq_true p401
         replace q401 := eq_true q401
         have p402 : 0 ≤ (x11_1 : Int) := od_
         have q402 : x11_1 < (l1.length : Int) := od_
         obtain ⟨ad402, e402, hx402_0⟩ := Kd.at_int HR1.out x11_1 p402 q402
         cases e402
         replace p402 := eq_true p402
         replace q402 := eq_true q402
         go_wp2_with (first | ((with_reducible refine gate_callee (f := 107) rfl ?_); refine goesL_ (some 26) rfl rfl Try.func107 (by kernel_rfl) rfl #[.int .i64 (rd l0 x11_1), .int .i64 (rd l1 x11_1)] rfl rs_ ?_; (with_reducible refine (cmp_Compare_int.calls (rd l0 x11_1) (rd l1 x11_1) t403 _ A8.out).mono ?_); rintro e w' ⟨rfl, ⟨nd, rfl⟩⟩; refine ⟨_, rfl, ?_⟩))
         go_roundg k1
         case measure => have := HK1.out; omega
         case rel => exact ⟨(wrap64 (x11_1 + 1)), (ry_), H', ⟨by have := HK1.out; omega⟩, by repeat (first | exact Drawn0.refl _ | apply Drawn0.step)⟩
        ·
         rw [if_neg c9] at H
         have c9b0 : (t403 == 0) = false := beq_eq_false_iff_ne.mpr c9
         have c9b1 : (t403 != 0) = true := bne_iff_ne.mpr c9
         obtain rfl := Option.some.inj H
         have p401 : 0 ≤ (x11_1 : Int) := od_
         have q401 : x11_1 < (l0.length : Int) := od_
         obtain ⟨ad401, e401, hx401_0⟩ := Kd.at_int HR0.out x11_1 p401 q401
         cases e401
         replace p401 := eq_true p401
         replace q401 := eq_true q401
         have p402 : 0 ≤ (x11_1 : Int) := od_
         have q402 : x11_1 < (l1.length : Int) := od_
         obtain ⟨ad402, e402, hx402_0⟩ := Kd.at_int HR1.out x11_1 p402 q402
         cases e402
         replace p402 := eq_true p402
         replace q402 := eq_true q402
         go_wp2_with (first | ((with_reducible refine gate_callee (f := 107) rfl ?_); refine goesL_ (some 26) rfl rfl Try.func107 (by kernel_rfl) rfl #[.int .i64 (rd l0 x11_1), .int .i64 (rd l1 x11_1)] rfl rs_ ?_; (with_reducible refine (cmp_Compare_int.calls (rd l0 x11_1) (rd l1 x11_1) t403 _ A8.out).mono ?_); rintro e w' ⟨rfl, ⟨nd, rfl⟩⟩; refine ⟨_, rfl, ?_⟩))
         go_ret
         exact ⟨ry_, by repeat (first | exact Drawn0.refl _ | apply Drawn0.step)⟩
       ·
        rw [if_neg c7] at H
        exact absurd H (by simp)
     ·
      rw [if_neg c5] at H
      exact absurd H (by simp)
    ·
     rw [if_neg c4] at H
     exact absurd H (by simp)
   ·
    rw [if_neg c3] at H
    have c3b0 := decide_eq_false c3
    clear c3
    by_cases c10 : (l0.length : Int) < (l1.length : Int)
    ·
     rw [if_pos c10] at H
     have c10b0 := decide_eq_true c10
     have c10b1 : decide (l0.length < l1.length) = true := decide_eq_true (Int.ofNat_lt.mp c10)
     clear c10
     obtain rfl := Option.some.inj H
     go_wp2
     go_ret
     exact ⟨ry_, by repeat (first | exact Drawn0.refl _ | apply Drawn0.step)⟩
    ·
     rw [if_neg c10] at H
     have c10b0 := decide_eq_false c10
     have c10b1 : decide (l0.length < l1.length) = false := decide_eq_false (fun h => c10 (Int.ofNat_lt.mpr h))
     clear c10
     obtain rfl := Option.some.inj H
     go_wp2
     go_ret
     exact ⟨ry_, by repeat (first | exact Drawn0.refl _ | apply Drawn0.step)⟩
theorem gp_lit0 {α : Type} (d : Kd α) (e : Nat) (W : World) {base : Nat} (hb : base ≤ W.heap.size) : Kd.S d e (W.alloc (.cells #[] e)) base (fun _ => True) (.slice (some ⟨W.heap.size, 0, none⟩) 0 0) [] := by
 refine ⟨fun _ => 0, fun _ _ => trivial, [], ?_, Reps.none _ _⟩
 have h2 := World.ownsRow_lit (base := base) (e := e) (size := d.sz) W #[] 0 hb (by simp [maxLen]) (by simp)
 have h3 : (W.alloc (.cells #[] e)).ownsRow base e d.sz (.slice (some ⟨W.heap.size, 0, none⟩) 0 0) 0 [] := by simpa using h2
 exact h3
theorem gp_new2 (W : World) (o o2 : Obj) : ((W.alloc o).alloc o2).heap[W.heap.size + 1]? = some o2 := by
 have h := blk_new (W.alloc o) o2
 have e : (W.alloc o).heap.size = W.heap.size + 1 := Array.size_push ..
 rw [e] at h
 exact h
def grSt (l : List Int) (acc : List (List Int)) : Option (List (List Int)) := if acc.length < 1000000 then some (acc ++ [l]) else none
theorem gr_each (g : Nat) (w0 : World) : GpEach (Kd.slice 3 (Kd.int .i64)) 22 57 grSt g 90 #[.pointer (some ⟨g, 0, none⟩)] w0 := by
 intro W v vL l acc a1 hst hl hs
 unfold grSt at hs
 by_cases hlen : acc.length < 1000000
 rotate_left
 ·rw [if_neg hlen] at hs; exact absurd hs (by simp)
 rw [if_pos hlen] at hs
 obtain rfl := Option.some.inj hs
 obtain ⟨A1, c1, rfl, hle, hl1⟩ := gp_row hl
 obtain ⟨A, c, rfl⟩ := Kd.S_slice hst.row
 have ST := ak_ hst
 have RL := ak_ hl
 have FR := ak_ (GpFr.below (g := g) (v := .slice A acc.length c) (Below.refl W.heap.size W))
 have HLEN := ak_ hlen
 clear hs hst hl hl1 hle hlen
 have hy5 := (blk_cell ST.out.out 0)
 have hf5 := (blk_frozen ST.out.out 0)
 simp at hy5
 go_enter Try.func90, Try.ntmps90
 go_wp2_with (first | ((with_reducible refine gate_builtin (b := .append) (xs := #[.tmp 3, .tmp 5]) rfl ?_); at_builtin; refine Kd.S_append (Kd.slice 3 (Kd.int .i64)) (w0 := w0) w0.heap.size rfl (.tmp 3) (.tmp 5) 57 22 (.slice none 0 0) 24 rfl Try.underlying57 info22 rfl (by decide) (by omega) (.slice A acc.length c) acc l [.slice A1 l.length c1] (fun _ => True) (fun k_ => some k_ = (Value.slice A1 l.length c1).ownBlock) rfl rfl ?aP ?aK (fun _ _ => trivial) ?aO ?aB ?aS ?aL ?_; (case aP => exact ⟨_, rfl, Kd.R_tight rfl (Kd.pR RL.out)⟩); (case aK => (intro k_ hk_; exact ⟨trivial, (RL.out.1 k_ hk_.symm).2⟩)); (case aO => exact Kd.S_mono (Kd.pS ST.out.row) (fun k_ hk_ => ⟨trivial, hk_⟩)); (case aB => exact (ST.out.up be_).bel); (case aS => exact bz_ (ST.out.up be_).bel); (case aL => have := HLEN.out; omega); intro v9 w9 ho hb hg hat; obtain ⟨Ao, co, rfl⟩ := Kd.S_slice ho; have HO := ak_ ho; have HB9 := ak_ hb; have HG := ak_ hg; have HAT := ak_ hat; have n0_ := ak_ (blk_grown (pk ST.out.out) hg (Kd.S_ne ST.out.row ST.out.out (by decide))); have hf9 := (blk_frozen n0_.out 0); have hy9 := (blk_cell n0_.out 0); simp at hy9; clear ho hb hg hat))
 go_end0
 refine ⟨rfl, .slice Ao (acc.length + 1) co, ⟨?_, ?_, ?_, ST.out.ge⟩, ?_⟩
 rotate_left
 ·exact (by (with_reducible repeat (first | apply Kd.S_alloc | apply Kd.S_drewN | apply Kd.S_drew)); have h_ := Kd.S_set HO.out n0_.out (by decide) 0 (.slice Ao (acc.length + 1) co); rw [List.length_append, List.length_singleton] at h_; exact h_)
 ·exact (by repeat (first | (with_reducible first | exact HB9.out | apply ba_ | apply bN_ | apply b1_ | refine below_set ?_ ST.out.ge) | exact HB9.out))
 ·refine FR.out.trans ⟨?_, fun k_ hk_ hg_ ht_ => ?_, ?_⟩
  ·have h2_ := HG.out.size
   first | (simp; omega) | (simp at h2_ ⊢; omega)
  ·have e2_ : w9.heap[k_]? = W.heap[k_]? := HG.out.block k_ hk_ ht_
   exact (Below.heap_setCell w9 ⟨g, 0, none⟩ _ k_ hg_).trans e2_
  ·rcases HAT.out with e_ | ⟨b_, e_, h_⟩
   ·left
    rw [List.length_append, List.length_singleton] at e_
    exact e_
   ·right
    intro b2_ h2_
    rw [List.length_append, List.length_singleton] at e_
    rw [e_] at h2_
    injection h2_ with h2_
    omega
 ·exact (by (with_reducible repeat (first | refine kN_ ?_ _ | refine k1_ ?_ | refine ka_ ?_ _)); exact blk_put n0_.out 0 _ rfl)
def impl_Night_groups.T6 : Bool × List (List Nat × List Nat) := (true, [([], []), ([0], [0]), ([], []), ([1, 2], [1, 2]), ([], []), ([3, 4], [3, 4]), ([], []), ([6], [6]), ([], []), ([5, 7, 8, 5], [5, 7, 8])])
def impl_Night_groups.B6 : List Nat := [0, 1, 0, 7, 0, 31, 0, 64, 0, 511]
theorem impl_Night_groups.T6_ : rtab .any (opsOf Try.f69 6) = impl_Night_groups.T6 := by kernel_rfl
theorem impl_Night_groups.B6_ : waitsOk impl_Night_groups.T6.2 impl_Night_groups.B6 = true := by kernel_rfl
def grPart (k : Nat) (ts : List Int) (se tq : Int) (ov : List Bool) (t : Int) (over : Bool) (acc : List (List Int)) : Option (List (List Int)) :=
 (impl_Night_torches.f ts se tq ov t over).bind fun m => if m > 0 then (impl_State_side.f k ov over over).bind fun P => if P.length ≤ 100 then gOn grSt se P [] acc else none else some acc
def rsW {n : Nat} [Inhabited (Fin n)] (val : Fin n → Value) (w : World) (g m : Nat) (dk : Array (Fin n)) (os : Array Obj) : World := Go.Sort.grow (Go.Sort.putRow val (Go.Sort.ahead w m) g 0 dk) os
theorem rsW_heap {n : Nat} [Inhabited (Fin n)] (val : Fin n → Value) (w : World) (g m : Nat) (dk : Array (Fin n)) (os : Array Obj) (k : Nat) (hk : k ≠ g) (hl : k < w.heap.size) : (rsW val w g m dk os).heap[k]? = w.heap[k]? := by
 have hs : (Go.Sort.putRow val (Go.Sort.ahead w m) g 0 dk).heap.size = w.heap.size := by simp [Go.Sort.putRow, Go.Sort.mapBlock, Go.Sort.ahead]
 unfold rsW Go.Sort.grow
 show ((Go.Sort.putRow val (Go.Sort.ahead w m) g 0 dk).heap ++ os)[k]? = _
 rw [Array.getElem?_append_left (by omega)]
 simp [Go.Sort.putRow, Go.Sort.mapBlock, Go.Sort.ahead, Array.getElem?_modify, show g ≠ k by omega]
theorem S_rows {α : Type} (d : Kd α) (hd : d.sz = 1) {e : Nat} {w : World} {base g cap : Nat} {ok : Nat → Prop} {xs : List α} (h : Kd.S d e w base ok (.slice (some ⟨g, 0, none⟩) xs.length cap) xs) (hn : 0 < xs.length) [Inhabited (Fin xs.length)] :
  ∃ val : Fin xs.length → Value, (∀ i, (val i).oneCell' = true) ∧ Go.Sort.Holds val w g 0 (List.finRange xs.length).toArray ∧ base ≤ g ∧ g < w.heap.size ∧
   ∀ (m : Nat) (os : Array Obj) (dk : Array (Fin xs.length)), dk.size = xs.length →
    (∀ i : Fin xs.length, d.K (rsW val w g m dk os) xs[i] [val i]) ∧ (dk.toList.Nodup → Kd.S d e (rsW val w g m dk os) base ok (.slice (some ⟨g, 0, none⟩) xs.length cap) (dk.toList.map fun i => xs[i])) := by
 obtain ⟨f, h0, inner, ho, hr⟩ := h
 have hsz : (Kd.tag f d).sz = 1 := hd
 rw [List.length_zipIdx, hsz] at ho
 have hlen : inner.length = xs.length := by
  have := hr.1
  rw [List.length_zipIdx, hsz] at this
  omega
 obtain ⟨val, hval⟩ : ∃ val : Fin xs.length → Value, val = fun i => inner[i.1]'(by rw [hlen]; exact i.2) := ⟨_, rfl⟩
 have hM : ∀ i : Fin xs.length, d.M w base (fun k => (ok k ∧ some k ≠ (Value.slice (some ⟨g, 0, none⟩) xs.length cap).ownBlock) ∧ f k = i.1) xs[i] [val i] := by
  intro i
  have h1 := hr.2 i.1 (xs[i], i.1) (Kd.zip_at (by simp))
  rw [hsz, Nat.mul_one] at h1
  have e1 : (inner.drop i.1).take 1 = [val i] := by
   rw [hval, List.drop_eq_getElem_cons (by rw [hlen]; exact i.2)]
   rfl
  rw [e1] at h1
  exact h1
 have hz : (List.finRange xs.length).map val = inner := by
  apply List.ext_getElem
  ·simp [hlen]
  ·intro j h1 h2
   simp [hval]
 have ho' : w.ownsRow base e 1 (.slice (some ⟨g, 0, none⟩) xs.length cap) xs.length ((List.finRange xs.length).map val) := by rw [hz]; exact ho
 obtain ⟨g', cap', e1, hb, hg, hc, -, -, hH⟩ := Lib.holds_of_ownsRow ho' (by simp)
 injection e1 with e1 _ _
 injection e1 with e1
 injection e1 with e1
 subst e1
 refine ⟨val, fun i => d.K_one (d.K_of_M (hM i)) _ (by simp), hH, hb, hg, fun m os dk hdk => ?_⟩
 have hM' : ∀ i : Fin xs.length, d.M (rsW val w g m dk os) base (fun k => (ok k ∧ some k ≠ (Value.slice (some ⟨g, 0, none⟩) xs.length cap).ownBlock) ∧ f k = i.1) xs[i] [val i] := fun i =>
  Kd.M_step (hM i) fun k hk hlt => rsW_heap val w g m dk os k (fun e => hk.1.2 (by rw [e]; rfl)) hlt
 refine ⟨fun i => d.K_of_M (hM' i), fun hnd => ?_⟩
 have hown : (rsW val w g m dk os).ownsRow base e 1 (.slice (some ⟨g, 0, none⟩) xs.length cap) xs.length (dk.toList.map val) := by
  have h1 := Lib.ownsRow_putRow (q := m) (k := xs.length) (ys := dk.toList) ho' (by simpa using hdk) (Nat.le_refl _)
  rw [List.take_of_length_le (by simp [hdk])] at h1
  have h2 := Lib.ownsRow_grow h1 0 os
  exact h2
 obtain ⟨f', hf'⟩ := Kd.reps_tag (d := d) (w := rsW val w g m dk os) (base := base) (ok := fun k => ok k ∧ some k ≠ (Value.slice (some ⟨g, 0, none⟩) xs.length cap).ownBlock) (xs := dk.toList.map fun i => xs[i]) (inner := dk.toList.map val)
  (fun j k => (ok k ∧ some k ≠ (Value.slice (some ⟨g, 0, none⟩) xs.length cap).ownBlock) ∧ ∃ i : Fin xs.length, dk.toList[j]? = some i ∧ f k = i.1)
  (fun i j k hi hj => by
   obtain ⟨-, a, ha, ea⟩ := hi
   obtain ⟨-, b, hb, eb⟩ := hj
   have hab : a = b := Fin.ext (by omega)
   subst hab
   obtain ⟨h1, h2⟩ := List.getElem?_eq_some_iff.1 ha
   obtain ⟨h3, h4⟩ := List.getElem?_eq_some_iff.1 hb
   rcases Nat.lt_trichotomy i j with q | q | q
   ·exact absurd (h2.trans h4.symm) (List.pairwise_iff_getElem.1 hnd i j h1 h3 q)
   ·exact q
   ·exact absurd (h4.trans h2.symm) (List.pairwise_iff_getElem.1 hnd j i h3 h1 q))
  (fun j k hk => hk.1) (by rw [List.length_map, List.length_map, hd, Nat.mul_one]) (fun j x hj => by
   obtain ⟨i, hi, rfl⟩ := Option.map_eq_some_iff.1 (by rw [← List.getElem?_map]; exact hj)
   obtain ⟨h1, h2⟩ := List.getElem?_eq_some_iff.1 hi
   have e2 : ((dk.toList.map val).drop (j * d.sz)).take d.sz = [val i] := by
    rw [hd, Nat.mul_one, List.drop_eq_getElem_cons (by simpa using h1), List.getElem_map, h2]
    rfl
   rw [e2]
   exact d.M_mono (fun k hk => ⟨hk.1, i, hi, hk.2⟩) (hM' i))
 refine ⟨f', h0, dk.toList.map val, ?_, hf'⟩
 rw [List.length_zipIdx, List.length_map]
 show (rsW val w g m dk os).ownsRow base e d.sz _ dk.toList.length _
 rw [hd, show dk.toList.length = xs.length by simpa using hdk]
 exact hown
def cmpL : List Int → List Int → Int
 | [], [] => 0
 | [], _ :: _ => -1
 | _ :: _, [] => 1
 | a :: s, b :: t => if a < b then -1 else if b < a then 1 else cmpL s t
theorem cmpL_flip : ∀ a b, cmpL b a = - cmpL a b
 | [], [] => rfl
 | [], _ :: _ => rfl
 | _ :: _, [] => rfl
 | a :: s, b :: t => by
  have ih := cmpL_flip s t
  simp only [cmpL]
  by_cases h1 : a < b
  ·rw [if_neg (by omega), if_pos h1, if_pos h1]; rfl
  ·by_cases h2 : b < a
   ·rw [if_pos h2, if_neg h1, if_pos h2]
   ·rw [if_neg h2, if_neg h1, if_neg h1, if_neg h2, ih]
theorem cmpL_zero : ∀ a b, cmpL a b = 0 → a = b
 | [], [], _ => rfl
 | [], _ :: _, h => by simp [cmpL] at h
 | _ :: _, [], h => by simp [cmpL] at h
 | a :: s, b :: t, h => by
  simp only [cmpL] at h
  by_cases h1 : a < b
  ·rw [if_pos h1] at h; omega
  ·rw [if_neg h1] at h
   by_cases h2 : b < a
   ·rw [if_pos h2] at h; omega
   ·rw [if_neg h2] at h
    rw [cmpL_zero s t h, show a = b by omega]
theorem cmpL_refl (a : List Int) : cmpL a a = 0 := by
 have := cmpL_flip a a
 omega
theorem cmpL_trans : ∀ a b c, cmpL a b ≤ 0 → cmpL b c ≤ 0 → cmpL a c ≤ 0
 | [], _, [], _, _ => by simp [cmpL]
 | [], _, _ :: _, _, _ => by simp [cmpL]
 | _ :: _, [], _, h, _ => by simp [cmpL] at h
 | _ :: _, _ :: _, [], _, h => by simp [cmpL] at h
 | a :: s, b :: t, c :: u, h, k => by
  have ih := cmpL_trans s t u
  simp only [cmpL] at h k ⊢
  by_cases h1 : a < b
  ·by_cases k1 : b < c
   ·rw [if_pos (by omega)]; omega
   ·rw [if_neg k1] at k
    by_cases k2 : c < b
    ·rw [if_pos k2] at k; omega
    ·rw [if_pos (by omega)]; omega
  ·rw [if_neg h1] at h
   by_cases h2 : b < a
   ·rw [if_pos h2] at h; omega
   ·rw [if_neg h2] at h
    by_cases k1 : b < c
    ·rw [if_pos (by omega)]; omega
    ·rw [if_neg k1] at k
     by_cases k2 : c < b
     ·rw [if_pos k2] at k; omega
     ·rw [if_neg k2] at k
      rw [if_neg (by omega), if_neg (by omega)]
      exact ih h k
theorem compare_l0 {a b : List Int} (ha : a.length ≤ 1000000) (hb : b.length ≤ 1000000) : ∀ (d k i : Nat), i + d = a.length → i ≤ b.length → d < k → slices_Compare_int_int.l0 k a b a (a.length : Int) (i : Int) = some (cmpL (a.drop i) (b.drop i)) := by
 intro d
 induction d with
 | zero =>
  intro k i hi hib hk
  obtain ⟨k, rfl⟩ : ∃ m, k = m + 1 := ⟨k - 1, by omega⟩
  rw [slices_Compare_int_int.l0.eq_2, if_neg (by omega), List.drop_of_length_le (by omega : a.length ≤ i)]
  by_cases h : a.length < b.length
  ·rw [if_pos (by omega), List.drop_eq_getElem_cons (by omega : i < b.length)]
   rfl
  ·rw [if_neg (by omega), List.drop_of_length_le (by omega : b.length ≤ i)]
   rfl
 | succ d ih =>
  intro k i hi hib hk
  obtain ⟨k, rfl⟩ : ∃ m, k = m + 1 := ⟨k - 1, by omega⟩
  have hlt : i < a.length := by omega
  rw [slices_Compare_int_int.l0.eq_2, if_pos (by omega), if_pos (by omega), if_pos (by omega), List.drop_eq_getElem_cons hlt]
  by_cases h : i < b.length
  ·have ea : rd a (i : Int) = a[i] := by unfold rd; rw [Int.toNat_natCast, List.getD_eq_getElem?_getD, List.getElem?_eq_getElem hlt]; rfl
   have eb : rd b (i : Int) = b[i] := by unfold rd; rw [Int.toNat_natCast, List.getD_eq_getElem?_getD, List.getElem?_eq_getElem h]; rfl
   have ew : wrap64 ((i : Int) + 1) = ((i + 1 : Nat) : Int) := by unfold wrap64; omega
   rw [if_neg (by omega), if_pos (by omega), ea, eb, ew, ih k (i + 1) (by omega) (by omega) (by omega), List.drop_eq_getElem_cons h]
   generalize a[i] = x
   generalize b[i] = y
   unfold cmp_Compare_int.f cmp_isNaN_int.f
   simp only [bne_self_eq_false, Option.bind_some, Bool.false_eq_true, if_false, cmpL]
   by_cases c1 : x < y
   ·rw [if_pos c1, if_pos c1, Option.bind_some, if_neg (by decide)]
   ·rw [if_neg c1, if_neg c1]
    by_cases c2 : x > y
    ·rw [if_pos c2, if_pos c2, Option.bind_some, if_neg (by decide)]
    ·rw [if_neg c2, if_neg c2, Option.bind_some, if_pos rfl]
  ·rw [if_pos (by omega), List.drop_of_length_le (by omega : b.length ≤ i)]
   rfl
theorem compare_eq {a b : List Int} (ha : a.length ≤ 1000000) (hb : b.length ≤ 1000000) {k : Nat} (hk : a.length < k) : slices_Compare_int_int.f k a b = some (cmpL a b) := compare_l0 ha hb a.length k 0 (by omega) (by omega) hk
def leL (a b : List Int) : Bool := decide (cmpL a b ≤ 0)
theorem cmpL_swo {n : Nat} (xs : Fin n → List Int) : Go.Sort.SWO (fun x y => decide (cmpL (xs x) (xs y) < 0)) where
 irrefl := fun x => by
  have := cmpL_refl (xs x)
  exact decide_eq_false (by omega)
 trans := fun x y z h k => by
  have h := odt_ h
  have k := odt_ k
  have h1 := cmpL_trans _ _ _ (Int.le_of_lt h) (Int.le_of_lt k)
  refine decide_eq_true ?_
  apply Classical.byContradiction
  intro hn
  have h2 := cmpL_zero (xs x) (xs z) (by omega)
  rw [← h2, cmpL_flip (xs x)] at k
  omega
 ntrans := fun x y z h k => by
  have h := of_decide_eq_false h
  have k := of_decide_eq_false k
  have e1 := cmpL_flip (xs x) (xs y)
  have e2 := cmpL_flip (xs y) (xs z)
  have e3 := cmpL_flip (xs x) (xs z)
  have := cmpL_trans (xs z) (xs y) (xs x) (by omega) (by omega)
  exact decide_eq_false (by omega)
theorem sorted_rows {xs : List (List Int)} [Inhabited (Fin xs.length)] {dk : Array (Fin xs.length)} (hp : Go.Sort.PermIn 0 xs.length (List.finRange xs.length).toArray dk) (hs : Go.Sort.SortedIn (fun x y : Fin xs.length => decide (cmpL xs[x] xs[y] < 0)) 0 xs.length dk) :
  dk.size = xs.length ∧ dk.toList.Nodup ∧ (dk.toList.map fun i => xs[i]) = xs.mergeSort leL := by
 have hsz : dk.size = xs.length := by
  have := hp.1
  simpa using this
 have hperm : dk.toList.Perm (List.finRange xs.length) := by
  have := hp.2.2
  simp only [Array.toList_extract, List.extract, Nat.sub_zero, List.drop_zero] at this
  rwa [List.take_of_length_le (by simp [hsz]), List.take_of_length_le (by simp)] at this
 refine ⟨hsz, hperm.nodup_iff.2 (List.nodup_finRange _), ?_⟩
 have hmap : (List.finRange xs.length).map (fun i => xs[i]) = xs := by
  apply List.ext_getElem
  ·simp
  ·intro i h1 h2
   simp
 have hp2 : (dk.toList.map fun i => xs[i]).Perm (xs.mergeSort leL) := by
  have h1 := hperm.map (fun i : Fin xs.length => xs[i])
  rw [hmap] at h1
  exact h1.trans (List.mergeSort_perm _ _).symm
 have hpw : (xs.mergeSort leL).Pairwise (fun a b => cmpL a b ≤ 0) := (List.pairwise_mergeSort (le := leL) (fun a b c h1 h2 => decide_eq_true (cmpL_trans a b c (odt_ h1) (odt_ h2))) (fun a b => by
  have := cmpL_flip a b
  unfold leL
  simp only [Bool.or_eq_true, decide_eq_true_eq]
  omega) xs).imp fun h => odt_ h
 have hpw2 : (dk.toList.map fun i => xs[i]).Pairwise (fun a b => cmpL a b ≤ 0) := by
  rw [List.pairwise_iff_getElem]
  intro i j hi hj hij
  rw [List.length_map] at hi hj
  have h1 := of_decide_eq_false (hs i j (by omega) hij (by simpa [hsz] using hj))
  have ei : dk[i]! = dk[i]'(by simpa using hi) := getElem!_pos dk i _
  have ej : dk[j]! = dk[j]'(by simpa using hj) := getElem!_pos dk j _
  rw [ei, ej] at h1
  rw [List.getElem_map, List.getElem_map]
  have e := cmpL_flip xs[dk[j]'(by simpa using hj)] xs[dk[i]'(by simpa using hi)]
  have e2 : dk.toList[i]'(by simpa using hi) = dk[i]'(by simpa using hi) := by simp
  have e3 : dk.toList[j]'(by simpa using hj) = dk[j]'(by simpa using hj) := by simp
  rw [e2, e3]
  omega
 exact List.Perm.eq_of_pairwise (le := fun a b => cmpL a b ≤ 0) (fun a b _ _ h1 h2 => cmpL_zero a b (by have := cmpL_flip a b; omega)) hpw2 hpw hp2
def grSort (k : Nat) (l : List (List Int)) : Option (List (List Int)) := if l.length = 0 then some [] else if l.length ≤ 1000 ∧ (l.all fun x => decide (x.length ≤ 1000)) = true then some (l.mergeSort leL) else none
def impl_Night_groups.f (k : Nat) (ts : List Int) (se tq : Int) (ov : List Bool) (t : Int) : Option (List (List Int)) := (grPart k ts se tq ov t false []).bind fun a => (grPart k ts se tq ov t true a).bind fun b => grSort k b
def grRest (k : Nat) (ts : List Int) (se tq : Int) (ov : List Bool) (t : Int) : Nat → List (List Int) → Option (List (List Int))
 | 0, acc => (grPart k ts se tq ov t false acc).bind fun a => grPart k ts se tq ov t true a
 | 1, acc => grPart k ts se tq ov t true acc
 | _ + 2, acc => some acc
theorem rsW_below {n : Nat} [Inhabited (Fin n)] (val : Fin n → Value) {w0 w : World} {B g : Nat} (m : Nat) (dk : Array (Fin n)) (os : Array Obj) (h : Below B w0 w) (hg : B ≤ g) (hgw : g < w.heap.size) : Below B w0 (rsW val w g m dk os) := by
 have h1 : Below B w0 (Go.Sort.putRow val (Go.Sort.ahead w m) g 0 dk) := Lib.below_putRow h hg
 have hs : (Go.Sort.putRow val (Go.Sort.ahead w m) g 0 dk).heap.size = w.heap.size := by simp [Go.Sort.putRow, Go.Sort.mapBlock, Go.Sort.ahead]
 refine ⟨h1.os, h1.tape, h1.output, ?_, fun k hk => ?_⟩
 ·have h2 := h1.size
  show w0.heap.size ≤ ((Go.Sort.putRow val (Go.Sort.ahead w m) g 0 dk).heap ++ os).size
  rw [Array.size_append]
  omega
 ·rw [← h1.block k hk]
  show ((Go.Sort.putRow val (Go.Sort.ahead w m) g 0 dk).heap ++ os)[k]? = _
  rw [Array.getElem?_append_left (by omega)]
set_option maxHeartbeats 1000000 in
theorem rs_sort (b cap base : Nat) (ok : Nat → Prop) (xs : List (List Int)) (W : World) (HS : Kd.S (Kd.slice 3 (Kd.int .i64)) 22 W base ok (.slice (some ⟨b, 0, none⟩) xs.length cap) xs) (h0 : 0 < xs.length) (hn : xs.length ≤ 1000) (hl : ∀ x ∈ xs, x.length ≤ 1000) :
  Calls Try.prog 91 #[.slice (some ⟨b, 0, none⟩) xs.length cap, .func (.func 92) #[] #[]] W fun e w' => e = .returned (.tuple #[]) ∧ Kd.S (Kd.slice 3 (Kd.int .i64)) 22 w' base ok (.slice (some ⟨b, 0, none⟩) xs.length cap) (xs.mergeSort leL) ∧ (∀ k, k ≠ b → k < W.heap.size → w'.heap[k]? = W.heap[k]?) ∧ ∀ B w0, Below B w0 W → B ≤ b → Below B w0 w' := by
 haveI : Inhabited (Fin xs.length) := ⟨⟨0, h0⟩⟩
 obtain ⟨val, hone, hH, hbase, hlt, hall⟩ := S_rows (Kd.slice 3 (Kd.int .i64)) rfl HS h0
 have hsz : ((List.finRange xs.length).toArray).size = xs.length := by simp
 have hcmp : CmpReads Try.prog 92 #[] val (fun x y : Fin xs.length => cmpL xs[x] xs[y]) b 0 ((List.finRange xs.length).toArray).size W := by
  intro m os dk hdk x y
  obtain ⟨A1, c1, ex, lx, cx⟩ := (hall m os dk (by omega)).1 x
  obtain ⟨A2, c2, ey, ly, cy⟩ := (hall m os dk (by omega)).1 y
  have ex' : val x = .slice A1 xs[x].length c1 := by injection ex
  have ey' : val y = .slice A2 xs[y].length c2 := by injection ey
  have h := slices_Compare_int_int.calls 1001 A1 c1 xs[x] A2 c2 xs[y] (cmpL xs[x] xs[y]) (rsW val W b m dk os) cx lx cy ly (compare_eq (by have := hl xs[x] (List.getElem_mem _); omega) (by have := hl xs[y] (List.getElem_mem _); omega) (by have := hl xs[x] (List.getElem_mem _); omega))
  rw [← ex', ← ey'] at h
  exact h.mono fun e w' hh => ⟨hh.1, by obtain ⟨nd, e_⟩ := hh.2; exact ⟨nd, e_⟩⟩
 have h := Try.slices_SortFunc val hone (fun x y : Fin xs.length => cmpL xs[x] xs[y]) (cmpL_swo (fun i => xs[i])) 92 #[] b 0 cap (List.finRange xs.length).toArray W (enters_of Try.func92 (by kernel_rfl) rfl) hcmp.lays hH hlt (by omega)
 rw [hsz] at h
 refine h.mono ?_
 rintro e w' ⟨rfl, dk, m, os, hp, hs, rfl⟩
 obtain ⟨h1, h2, h3⟩ := sorted_rows hp hs
 have h4 := (hall m os dk h1).2 h2
 rw [h3] at h4
 exact ⟨rfl, h4, fun k hk hlk => rsW_heap val W b m dk os k hk hlk, fun B w0 hB hb => rsW_below val m dk os hB hb hlt⟩
theorem ty_ne {W : World} {a b t u : Nat} {cs ds : Array Value} (h : W.heap[a]? = some (.cells cs t (0, 0))) (h2 : W.heap[b]? = some (.cells ds u (0, 0))) (ht : t ≠ u) : a ≠ b := by
 rintro rfl
 rw [h] at h2
 injection h2 with h2
 injection h2 with _ h2
 exact ht h2
theorem impl_Night_groups.calls (k : Nat) (At : Option Addr) (ct : Nat) (ts : List Int) (se tq : Int) (Ao : Option Addr) (co : Nat) (ov : List Bool) (t : Int) (r : List (List Int)) (w : World)
  (ht : Kd.C (Kd.int .i64) w At ts.length ts) (hct : ts.length ≤ ct) (ho : Kd.C Kd.bool w Ao ov.length ov) (hco : ov.length ≤ co) (h : impl_Night_groups.f k ts se tq ov t = some r) :
  Calls Try.prog 69 #[.agg #[.slice At ts.length ct, .int .i64 se, .int .i64 tq], .agg #[.slice Ao ov.length co, .int .i64 t]] w fun e w' => ∃ v0_ : Value, e = .returned v0_ ∧ Kd.N (Kd.slice 3 (Kd.int .i64)) 22 w' w.heap.size (fun k_ => (w.heap.size ≤ k_)) v0_ r ∧ Below w.heap.size w w' := by
 have hu := Try.underlying33
 have hu2 := Try.underlying35
 have hu3 := Try.underlying94
 unfold impl_Night_groups.f at h
 obtain ⟨a0, h1, h⟩ := Option.bind_eq_some_iff.mp h
 obtain ⟨b, h2, h3⟩ := Option.bind_eq_some_iff.mp h
 have h4 : grRest k ts se tq ov t 0 [] = some b := by
  show (grPart k ts se tq ov t false []).bind (fun a => grPart k ts se tq ov t true a) = some b
  rw [h1, Option.bind_some, h2]
 have AT := ak_ fun (over : Bool) (m : Int) (hm : impl_Night_torches.f ts se tq ov t over = some m) (W : World) (hb : Below w.heap.size w W) => impl_Night_torches.calls At ct ts se tq Ao co ov t over m W (Kd.C_below ht hb) hct (Kd.C_below ho hb) hco hm
 have A1 := ak_ fun (over : Bool) (P : List Int) (hp : impl_State_side.f k ov over over = some P) (W : World) (hb : Below w.heap.size w W) => impl_State_side.calls k Ao co ov over over P W (Kd.C_below ho hb) hco hp
 have A2 := ak_ fun (P : List Int) (acc a1 : List (List Int)) (hP : P.length ≤ 100) (hg : gOn grSt se P [] acc = some a1) (g : Nat) (w0 W : World) (Ap : Option Addr) (cp : Nat) (v : Value) (hst : GpSt (Kd.slice 3 (Kd.int .i64)) 22 57 g w0 W v (fun _ => True) acc) (hp : (Kd.int .i64).R 3 W w0.heap.size (fun k => k ≠ g ∧ some k ≠ v.ownBlock) (.slice Ap P.length cp) P) =>
  groups_calls (Kd.slice 3 (Kd.int .i64)) 22 57 grSt g 90 #[.pointer (some ⟨g, 0, none⟩)] w0 Ap cp P se (enters_of Try.func90 (by kernel_rfl) rfl) (gr_each g w0) hP v a1 W hst hp hg
 have H := ak_ h4
 have H3 := ak_ h3
 have HB := ak_ (Below.refl w.heap.size w)
 clear h h1 h2 h3 h4 ht hct ho hco
 go_enter Try.func69, Try.ntmps69
 go_upto_region 2 with (first | ((with_reducible refine gate_dst (N := 2) rfl ?_); refine bx_ 2 #[.slice At ts.length ct, .int .i64 se, .int .i64 tq] 33 ?_; intro gb2 hg w2 hbox hb; have nb_ := ak_ (bs_ (bb_ HB.out) hb); have nc_ := ak_ hbox; have nd_ := ak_ ((by rw [hg]; exact (bz_ (bb_ HB.out)) : w.heap.size ≤ gb2)); clear HB hb hbox hg; have HB := nb_; have BK2 := nc_; have GE2 := nd_; clear nb_ nc_ nd_; have hz2_0 := (blk_cell BK2.out 0); have hf2_0 := (blk_frozen BK2.out 0); simp at hz2_0; have hz2_1 := (blk_cell BK2.out 1); have hf2_1 := (blk_frozen BK2.out 1); simp at hz2_1; have hz2_2 := (blk_cell BK2.out 2); have hf2_2 := (blk_frozen BK2.out 2); simp at hz2_2; skip) | ((with_reducible refine gate_dst (N := 3) rfl ?_); refine bx_ 3 #[.slice Ao ov.length co, .int .i64 t] 35 ?_; intro gb3 hg w3 hbox hb; have n0_ := ak_ (blk_below (pk BK2.out) hb); have m0_ := ak_ ((by rw [hg]; exact Nat.ne_of_lt (blk_lt (pk BK2.out)) : gb2 ≠ gb3)); have nb_ := ak_ (bs_ (bb_ HB.out) hb); have nc_ := ak_ hbox; have nd_ := ak_ ((by rw [hg]; exact (bz_ (bb_ HB.out)) : w.heap.size ≤ gb3)); clear HB hb hbox hg; clear BK2; have BK2 := n0_; have NE2_3 := m0_; have HB := nb_; have BK3 := nc_; have GE3 := nd_; clear nb_ nc_ nd_ n0_ m0_; have hz3_0 := (blk_cell BK3.out 0); have hf3_0 := (blk_frozen BK3.out 0); simp at hz3_0; have hz3_1 := (blk_cell BK3.out 1); have hf3_1 := (blk_frozen BK3.out 1); simp at hz3_1; skip))
 have HB3 := ak_ HB.out
 have hst := (show GpSt (Kd.slice 3 (Kd.int .i64)) 22 57 (w3.heap.size + 1) w3 ((w3.alloc (.cells #[] 22)).alloc (.cells #[.slice (some ⟨w3.heap.size, 0, none⟩) 0 0] 57)) (.slice (some ⟨w3.heap.size, 0, none⟩) 0 0) (fun _ => True) [] from ⟨gp_new2 w3 _ _, Kd.S_alloc (gp_lit0 _ _ w3 (Nat.le_refl _)) _, ba_ (ba_ (Below.refl _ _) _) _, Nat.le_succ _⟩)
 have n0_ := ak_ (ka_ (ka_ BK2.out (.cells #[] 22)) (.cells #[.slice (some ⟨w3.heap.size, 0, none⟩) 0 0] 57))
 have n1_ := ak_ (ka_ (ka_ BK3.out (.cells #[] 22)) (.cells #[.slice (some ⟨w3.heap.size, 0, none⟩) 0 0] 57))
 have HL2 := ak_ (blk_lt BK2.out)
 have HL3 := ak_ (blk_lt BK3.out)
 have ST := ak_ hst
 clear BK2 BK3 HB hst hz2_0 hz2_1 hz2_2 hf2_0 hf2_1 hf2_2 hz3_0 hz3_1 hf3_0 hf3_1
 have BK2 := n0_; have BK3 := n1_; clear n0_ n1_
 generalize (w3.alloc (.cells #[] 22)).alloc (.cells #[.slice (some ⟨w3.heap.size, 0, none⟩) 0 0] 57) = w5 at BK2 BK3 ST ⊢
 generalize Value.slice (some ⟨w3.heap.size, 0, none⟩) 0 0 = v5 at ST ⊢
 generalize w3.heap.size + 1 = gb5 at ST ⊢
 go_wp2
 obtain ⟨w6, hw6⟩ : ∃ W, W = w5.alloc (.cells #[.bool false, .bool true] 4) := ⟨_, rfl⟩
 have hb6 : Below w5.heap.size w5 w6 := by rw [hw6]; exact ba_ (Below.refl _ _) _
 have hbk : w6.heap[w5.heap.size]? = some (.cells #[.bool false, .bool true] 4 (0, 0)) := by rw [hw6]; exact blk_new w5 _
 rw [← hw6]
 clear hw6
 replace BK2 := ak_ (blk_below BK2.out hb6); replace BK3 := ak_ (blk_below BK3.out hb6); replace ST := ak_ (ST.out.up hb6); clear hb6
 obtain ⟨gbL, hgL⟩ : ∃ g, g = w5.heap.size := ⟨_, rfl⟩
 rw [← hgL] at hbk ⊢
 have BKL := ak_ hbk
 clear hbk hgL
 go_loopg [11] 3 (fun gg v11 wr => ∃ (i : Nat) (acc : List (List Int)) (v : Value), v11 = .int .i64 (i : Int) ∧ i ≤ 2 ∧ 3 - i ≤ gg ∧ Aside0 (grRest k ts se tq ov t i acc = some b) ∧ Aside0 (GpSt (Kd.slice 3 (Kd.int .i64)) 22 57 gb5 w3 wr v (fun _ => True) acc) ∧ Aside0 (wr.heap[gb2]? = some (.cells #[.slice At ts.length ct, .int .i64 se, .int .i64 tq] 33 (0, 0))) ∧ Aside0 (wr.heap[gb3]? = some (.cells #[.slice Ao ov.length co, .int .i64 t] 35 (0, 0))) ∧ Aside0 (wr.heap[gbL]? = some (.cells #[.bool false, .bool true] 4 (0, 0))))
 case atStart => exact ⟨0, [], v5, rfl, by omega, by omega, H, ⟨ST.out.up be_⟩, ⟨pk BK2.out⟩, ⟨pk BK3.out⟩, ⟨pk BKL.out⟩⟩
 case round =>
  clear H BK2 BK3 BKL ST
  obtain ⟨i, acc, v, rfl, hi2, hgg, H, ST, BK2, BK3, BKL⟩ := hrel
  cases gk with
  | zero => exact absurd hgg (by omega)
  | succ m =>
   have h := H.out
   have hl0 := blk_cell BKL.out 0
   have hl1 := blk_cell BKL.out 1
   have hq2_0 := blk_cell BK2.out 0
   simp at hq2_0
   have hq2_1 := blk_cell BK2.out 1
   simp at hq2_1
   have hq2_2 := blk_cell BK2.out 2
   simp at hq2_2
   have hq3_0 := blk_cell BK3.out 0
   simp at hq3_0
   have hq3_1 := blk_cell BK3.out 1
   simp at hq3_1
   simp at hl0
   simp at hl1
   rcases i with _ | _ | i
   ·obtain ⟨a, hp, hr⟩ : ∃ a, grPart k ts se tq ov t false acc = some a ∧ grRest k ts se tq ov t 1 a = some b := by
      obtain ⟨a, h1, h2⟩ := Option.bind_eq_some_iff.mp (show (grPart k ts se tq ov t false acc).bind (fun a => grPart k ts se tq ov t true a) = some b from h)
      exact ⟨a, h1, h2⟩
    unfold grPart at hp
    obtain ⟨mm, hm, hp⟩ := Option.bind_eq_some_iff.mp hp
    have AT2 := ak_ (AT.out false mm hm)
    by_cases hm0 : mm > 0
    ·rw [if_pos hm0] at hp
     obtain ⟨P, hP, hp⟩ := Option.bind_eq_some_iff.mp hp
     by_cases hPl : P.length ≤ 100
     rotate_left
     ·rw [if_neg hPl] at hp; exact absurd hp (by simp)
     rw [if_pos hPl] at hp
     have A12 := ak_ (A1.out false P hP)
     have A22 := ak_ (A2.out P acc a hPl hp)
     have v3 : decide (mm > 0) = true := decide_eq_true hm0
     have v4 : decide (0 < mm) = true := decide_eq_true hm0
     have HR := ak_ hr
     clear h H AT A1 A2 hm hp hP hPl hm0 hr H3
     go_upto_region 6 with (go_at_call 87; refine (AT2.out _ (below_then HB3.out HB3.out.size (ST.out.up be_).bel)).mono ?_; rintro e w7 ⟨rfl, hb⟩; clear hq2_0 hq2_1 hq2_2 hq3_0 hq3_1 hl0 hl1 AT2; replace BK2 := ak_ (blk_below (pk BK2.out) hb); replace BK3 := ak_ (blk_below (pk BK3.out) hb); replace BKL := ak_ (blk_below (pk BKL.out) hb); replace ST := ak_ ((ST.out.up be_).up hb); clear hb)
     try go_wp2
     replace BK2 := ak_ (k1_ BK2.out); replace BK3 := ak_ (k1_ BK3.out); replace BKL := ak_ (k1_ BKL.out); replace ST := ak_ (ST.out.up (below_drew (Below.refl _ _)))
     refine start_ (n := 10) (S := fun w' => w'.cell? ⟨gb3, 0, none⟩ = some (.slice Ao ov.length co) ∧ w'.cell? ⟨gb2, 1, none⟩ = some (.int .i64 se)) (ds := []) (mb_ 10 0) (by kernel_rfl) rfl rfl ⟨(blk_cell BK3.out 0).trans rfl, (blk_cell BK2.out 1).trans rfl⟩ (fun hHeld => ?_); refine with_tabW impl_Night_groups.T6_ impl_Night_groups.B6_ (fun HT_ HW_ => ?_)
     generalize w7.drew = w9 at BK2 BK3 BKL ST hHeld ⊢
     refine pu_ 0 20 10 1 ?_
     refine tk_ 1 21 10 3 ?_ (hy := by rintro w' ⟨s0, s1⟩; go_simp; with_reducible rfl)
     refine pu_ 2 22 10 7 ?_
     refine pu_ 3 23 10 15 ?_
     refine pu_ 4 24 10 31 ?_
     refine pu_ 6 26 10 95 ?_
     refine tk_ 7 27 10 223 ?_ (hy := by rintro w' ⟨s0, s1⟩; go_simp; with_reducible rfl)
     refine pu_ 8 28 10 479 ?_
     refine on_ 5 25 10 511 (fun K hK => ?_)
     refine goes_ Try.func89 (by kernel_rfl) rfl #[.agg #[.slice Ao ov.length co, .bool false], .bool false] (by rfl) rfl rfl rs_ ?_
     refine (A12.out _ (below_then HB3.out HB3.out.size ST.out.bel)).mono ?_
     rintro e_ w10 ⟨v12, rfl, hp, hb⟩
     obtain ⟨Ap, cp, rfl⟩ := Kd.R_slice hp
     refine ⟨_, rfl, ?_⟩
     have PL := ak_ (Kd.R_lower (ST.out.new (Nat.le_refl _) hp) (bz_ ST.out.bel))
     replace BK2 := ak_ (blk_below BK2.out hb); replace BK3 := ak_ (blk_below BK3.out hb); replace BKL := ak_ (blk_below BKL.out hb); replace ST := ak_ (ST.out.up hb); clear hb hp
     refine hK.out _ _ ⟨(blk_cell BK3.out 0).trans rfl, (blk_cell BK2.out 1).trans rfl⟩ (fun hHeld => ?_)
     clear hK K
     refine nm_ ?_
     refine on_ 9 29 10 1023 (fun K hK => ?_)
     refine goes_ Try.func88 (by kernel_rfl) rfl #[.slice Ap P.length cp, .int .i64 se, .func (.func 90) #[] #[.pointer (some ⟨gb5, 0, none⟩)]] (by rfl) rfl rfl rs_ ?_
     refine (A22.out gb5 w3 _ Ap cp v ST.out PL.out).mono ?_
     rintro e_ w11 ⟨rfl, v11, hst, hfr⟩
     refine ⟨_, rfl, ?_⟩
     replace BK2 := ak_ ((hfr.at_ (blk_lt BK2.out) (ty_ne BK2.out ST.out.out (by decide)) (Kd.S_ne ST.out.row BK2.out (by decide))).trans BK2.out); replace BK3 := ak_ ((hfr.at_ (blk_lt BK3.out) (ty_ne BK3.out ST.out.out (by decide)) (Kd.S_ne ST.out.row BK3.out (by decide))).trans BK3.out); replace BKL := ak_ ((hfr.at_ (blk_lt BKL.out) (ty_ne BKL.out ST.out.out (by decide)) (Kd.S_ne ST.out.row BKL.out (by decide))).trans BKL.out); replace ST := ak_ hst; clear hst hfr
     refine hK.out _ _ ⟨(blk_cell BK3.out 0).trans rfl, (blk_cell BK2.out 1).trans rfl⟩ (fun hHeld => ?_)
     clear hK K
     refine nm_ ?_
     refine done_ (done_of HT_.out (by kernel_rfl)) ?_
     try go_wp2
     go_roundg m
     case measure => omega
     case rel => exact ⟨1, a, v11, rfl, by omega, by omega, HR, ⟨ST.out.up be_⟩, ⟨pk BK2.out⟩, ⟨pk BK3.out⟩, ⟨pk BKL.out⟩⟩
    ·rw [if_neg hm0] at hp
     obtain rfl : acc = a := Option.some.inj hp
     have v3 : decide (mm > 0) = false := decide_eq_false hm0
     have v4 : decide (0 < mm) = false := decide_eq_false hm0
     have HR := ak_ hr
     clear h H AT A1 A2 hm hp hm0 hr H3
     go_wp2_with (go_at_call 87; refine (AT2.out _ (below_then HB3.out HB3.out.size (ST.out.up be_).bel)).mono ?_; rintro e w7 ⟨rfl, hb⟩; clear hq2_0 hq2_1 hq2_2 hq3_0 hq3_1 hl0 hl1 AT2; replace BK2 := ak_ (blk_below (pk BK2.out) hb); replace BK3 := ak_ (blk_below (pk BK3.out) hb); replace BKL := ak_ (blk_below (pk BKL.out) hb); replace ST := ak_ ((ST.out.up be_).up hb); clear hb)
     go_roundg m
     case measure => omega
     case rel => exact ⟨1, acc, v, rfl, by omega, by omega, HR, ⟨ST.out.up be_⟩, ⟨pk BK2.out⟩, ⟨pk BK3.out⟩, ⟨pk BKL.out⟩⟩
   ·obtain ⟨a, hp, hr⟩ : ∃ a, grPart k ts se tq ov t true acc = some a ∧ grRest k ts se tq ov t 2 a = some b := ⟨b, h, rfl⟩
    unfold grPart at hp
    obtain ⟨mm, hm, hp⟩ := Option.bind_eq_some_iff.mp hp
    have AT2 := ak_ (AT.out true mm hm)
    by_cases hm0 : mm > 0
    ·rw [if_pos hm0] at hp
     obtain ⟨P, hP, hp⟩ := Option.bind_eq_some_iff.mp hp
     by_cases hPl : P.length ≤ 100
     rotate_left
     ·rw [if_neg hPl] at hp; exact absurd hp (by simp)
     rw [if_pos hPl] at hp
     have A12 := ak_ (A1.out true P hP)
     have A22 := ak_ (A2.out P acc a hPl hp)
     have v3 : decide (mm > 0) = true := decide_eq_true hm0
     have v4 : decide (0 < mm) = true := decide_eq_true hm0
     have HR := ak_ hr
     clear h H AT A1 A2 hm hp hP hPl hm0 hr H3
     go_upto_region 6 with (go_at_call 87; refine (AT2.out _ (below_then HB3.out HB3.out.size (ST.out.up be_).bel)).mono ?_; rintro e w7 ⟨rfl, hb⟩; clear hq2_0 hq2_1 hq2_2 hq3_0 hq3_1 hl0 hl1 AT2; replace BK2 := ak_ (blk_below (pk BK2.out) hb); replace BK3 := ak_ (blk_below (pk BK3.out) hb); replace BKL := ak_ (blk_below (pk BKL.out) hb); replace ST := ak_ ((ST.out.up be_).up hb); clear hb)
     try go_wp2
     replace BK2 := ak_ (k1_ BK2.out); replace BK3 := ak_ (k1_ BK3.out); replace BKL := ak_ (k1_ BKL.out); replace ST := ak_ (ST.out.up (below_drew (Below.refl _ _)))
     refine start_ (n := 10) (S := fun w' => w'.cell? ⟨gb3, 0, none⟩ = some (.slice Ao ov.length co) ∧ w'.cell? ⟨gb2, 1, none⟩ = some (.int .i64 se)) (ds := []) (mb_ 10 0) (by kernel_rfl) rfl rfl ⟨(blk_cell BK3.out 0).trans rfl, (blk_cell BK2.out 1).trans rfl⟩ (fun hHeld => ?_); refine with_tabW impl_Night_groups.T6_ impl_Night_groups.B6_ (fun HT_ HW_ => ?_)
     generalize w7.drew = w9 at BK2 BK3 BKL ST hHeld ⊢
     refine pu_ 0 20 10 1 ?_
     refine tk_ 1 21 10 3 ?_ (hy := by rintro w' ⟨s0, s1⟩; go_simp; with_reducible rfl)
     refine pu_ 2 22 10 7 ?_
     refine pu_ 3 23 10 15 ?_
     refine pu_ 4 24 10 31 ?_
     refine pu_ 6 26 10 95 ?_
     refine tk_ 7 27 10 223 ?_ (hy := by rintro w' ⟨s0, s1⟩; go_simp; with_reducible rfl)
     refine pu_ 8 28 10 479 ?_
     refine on_ 5 25 10 511 (fun K hK => ?_)
     refine goes_ Try.func89 (by kernel_rfl) rfl #[.agg #[.slice Ao ov.length co, .bool true], .bool true] (by rfl) rfl rfl rs_ ?_
     refine (A12.out _ (below_then HB3.out HB3.out.size ST.out.bel)).mono ?_
     rintro e_ w10 ⟨v12, rfl, hp, hb⟩
     obtain ⟨Ap, cp, rfl⟩ := Kd.R_slice hp
     refine ⟨_, rfl, ?_⟩
     have PL := ak_ (Kd.R_lower (ST.out.new (Nat.le_refl _) hp) (bz_ ST.out.bel))
     replace BK2 := ak_ (blk_below BK2.out hb); replace BK3 := ak_ (blk_below BK3.out hb); replace BKL := ak_ (blk_below BKL.out hb); replace ST := ak_ (ST.out.up hb); clear hb hp
     refine hK.out _ _ ⟨(blk_cell BK3.out 0).trans rfl, (blk_cell BK2.out 1).trans rfl⟩ (fun hHeld => ?_)
     clear hK K
     refine nm_ ?_
     refine on_ 9 29 10 1023 (fun K hK => ?_)
     refine goes_ Try.func88 (by kernel_rfl) rfl #[.slice Ap P.length cp, .int .i64 se, .func (.func 90) #[] #[.pointer (some ⟨gb5, 0, none⟩)]] (by rfl) rfl rfl rs_ ?_
     refine (A22.out gb5 w3 _ Ap cp v ST.out PL.out).mono ?_
     rintro e_ w11 ⟨rfl, v11, hst, hfr⟩
     refine ⟨_, rfl, ?_⟩
     replace BK2 := ak_ ((hfr.at_ (blk_lt BK2.out) (ty_ne BK2.out ST.out.out (by decide)) (Kd.S_ne ST.out.row BK2.out (by decide))).trans BK2.out); replace BK3 := ak_ ((hfr.at_ (blk_lt BK3.out) (ty_ne BK3.out ST.out.out (by decide)) (Kd.S_ne ST.out.row BK3.out (by decide))).trans BK3.out); replace BKL := ak_ ((hfr.at_ (blk_lt BKL.out) (ty_ne BKL.out ST.out.out (by decide)) (Kd.S_ne ST.out.row BKL.out (by decide))).trans BKL.out); replace ST := ak_ hst; clear hst hfr
     refine hK.out _ _ ⟨(blk_cell BK3.out 0).trans rfl, (blk_cell BK2.out 1).trans rfl⟩ (fun hHeld => ?_)
     clear hK K
     refine nm_ ?_
     refine done_ (done_of HT_.out (by kernel_rfl)) ?_
     try go_wp2
     go_roundg m
     case measure => omega
     case rel => exact ⟨2, a, v11, rfl, by omega, by omega, HR, ⟨ST.out.up be_⟩, ⟨pk BK2.out⟩, ⟨pk BK3.out⟩, ⟨pk BKL.out⟩⟩
    ·rw [if_neg hm0] at hp
     obtain rfl : acc = a := Option.some.inj hp
     have v3 : decide (mm > 0) = false := decide_eq_false hm0
     have v4 : decide (0 < mm) = false := decide_eq_false hm0
     have HR := ak_ hr
     clear h H AT A1 A2 hm hp hm0 hr H3
     go_wp2_with (go_at_call 87; refine (AT2.out _ (below_then HB3.out HB3.out.size (ST.out.up be_).bel)).mono ?_; rintro e w7 ⟨rfl, hb⟩; clear hq2_0 hq2_1 hq2_2 hq3_0 hq3_1 hl0 hl1 AT2; replace BK2 := ak_ (blk_below (pk BK2.out) hb); replace BK3 := ak_ (blk_below (pk BK3.out) hb); replace BKL := ak_ (blk_below (pk BKL.out) hb); replace ST := ak_ ((ST.out.up be_).up hb); clear hb)
     go_roundg m
     case measure => omega
     case rel => exact ⟨2, acc, v, rfl, by omega, by omega, HR, ⟨ST.out.up be_⟩, ⟨pk BK2.out⟩, ⟨pk BK3.out⟩, ⟨pk BKL.out⟩⟩
   ·obtain rfl : acc = b := Option.some.inj h
    have h3 := H3.out
    unfold grSort at h3
    clear h H AT A1 A2 hl0 hl1 H3
    have hy5 := blk_cell ST.out.out 0
    simp at hy5
    by_cases h0 : acc.length = 0
    ·rw [if_pos h0] at h3
     obtain rfl := Option.some.inj h3
     obtain rfl : acc = [] := List.length_eq_zero_iff.1 h0
     obtain ⟨A, cL, rfl⟩ := Kd.S_slice ST.out.row
     have SN := ak_ fun (W : World) => AnyF.slices_SortFunc_none (P := Try.prog) (ρ := Try.laysSlF6_f91_ren) { Try.laysSlF6_f91 with } A cL (.func (.func 92) #[] #[]) W
     clear h3 h0
     go_wp2_with (go_at_call 91; refine (SN.out _).mono ?_; rintro e w8 ⟨rfl, rfl⟩)
     first | go_ret | go_ret2
     exact ⟨_, rfl, Kd.R_N (Kd.R_mono (Kd.R_bound (Kd.S_R (Kd.S_lower (Kd.S_below ST.out.row be_) (bz_ HB3.out)))) (fun _ hk_ => hk_.2.1)), below_then HB3.out HB3.out.size (ST.out.up be_).bel⟩
    ·rw [if_neg h0] at h3
     by_cases hc : acc.length ≤ 1000 ∧ (acc.all fun x => decide (x.length ≤ 1000)) = true
     rotate_left
     ·rw [if_neg hc] at h3; exact absurd h3 (by simp)
     rw [if_pos hc] at h3
     obtain rfl := Option.some.inj h3
     obtain ⟨bL, cL, ev, hbL, -⟩ := Kd.S_form ST.out.row (by omega)
     subst ev
     have HNE := ak_ (Kd.S_ne ST.out.row ST.out.out (by decide))
     have SO := ak_ fun (W : World) (HP : Kd.S (Kd.slice 3 (Kd.int .i64)) 22 W w3.heap.size (fun _ => True) (.slice (some ⟨bL, 0, none⟩) acc.length cL) acc) => rs_sort bL cL w3.heap.size (fun _ => True) acc W HP (by omega) hc.1 (fun x hx => odt_ (List.all_eq_true.1 hc.2 x hx))
     have HBL := ak_ hbL
     clear h3 h0 hc hbL
     go_wp2_with (go_at_call 91; refine (SO.out _ (Kd.pS ST.out.row)).mono ?_; rintro e w8 ⟨rfl, hs, hk, hbw⟩; have HS := ak_ hs; have BG := ak_ ((hk gb5 (fun e_ => HNE.out (by rw [e_]; rfl)) (blk_lt (pk ST.out.out))).trans (pk ST.out.out)); have HW := ak_ (hbw w.heap.size w (below_then HB3.out HB3.out.size (ST.out.up be_).bel) (Nat.le_trans HB3.out.size HBL.out)); clear hs hk hbw hy5 ST SO; have hy5 := blk_cell BG.out 0; simp at hy5)
     first | go_ret | go_ret2
     exact ⟨_, rfl, Kd.R_N (Kd.R_mono (Kd.R_bound (Kd.S_R (Kd.S_lower (Kd.S_below HS.out be_) (bz_ HB3.out)))) (fun _ hk_ => hk_.2.1)), below_then HW.out HW.out.size be_⟩
def slices_Index_int_int.l0 : Nat → List Int → Int → Int → Int → Option (Int)
 | 0, _, _, _, _ => none
 | k + 1, x0, x1, x7, x8 => if x8 < x7 then (if 0 ≤ x8 then (if x8 < (x0.length : Int) then (if x1 = (rd x0 x8) then (some x8) else (slices_Index_int_int.l0 k x0 x1 x7 (wrap64 (x8 + 1)))) else (none)) else (none)) else (some (-1))
def slices_Index_int_int.f (k : Nat) (l0 : List Int) (a1 : Int) : Option (Int) := slices_Index_int_int.l0 k l0 a1 (l0.length : Int) 0
theorem slices_Index_int_int.calls (k : Nat) (A0 : Option Addr) (c0 : Nat) (l0 : List Int) (a1 : Int) (r : Int) (w : World) (hr0 : Kd.C (Kd.int .i64) w A0 l0.length l0) (hc0 : l0.length ≤ c0) (h : slices_Index_int_int.f k l0 a1 = some r) :
  Calls Try.prog 124 #[.slice A0 l0.length c0, .int .i64 a1] w fun e w' => e = .returned (.int .i64 r) ∧ Drawn0 w w' := by
 have HR0 := ak_ hr0
 have HC0 := ak_ hc0
 clear hr0 hc0
 have H : (slices_Index_int_int.l0 k l0 a1 (l0.length : Int) 0) = some r := h
 clear h
 have H' := ak_ H
 clear H
 go_enter Try.func124, Try.ntmps124
 go_wp2
 go_loopg [8] k (fun kq v8 w' => ∃ (x8_1 : Int), v8 = .int .i64 x8_1 ∧ Aside0 (slices_Index_int_int.l0 kq l0 a1 (l0.length : Int) x8_1 = some r) ∧ Aside0 (kq ≤ k) ∧ Drawn0 w w')
 case atStart => exact ⟨(0), (ry_), H', ⟨Nat.le_refl _⟩, by repeat (first | exact Drawn0.refl _ | apply Drawn0.step)⟩
 case round =>
  clear H'
  try clear c1
  try clear p2
  obtain ⟨x8_1, rfl, HA, HK1, ⟨m1, rfl⟩⟩ := hrel
  cases gk with
  | zero => exact absurd HA.out (by simp [slices_Index_int_int.l0])
  | succ k1 =>
   have H := HA.out
   clear HA
   simp only [slices_Index_int_int.l0] at H
   by_cases c3 : x8_1 < (l0.length : Int)
   ·
    rw [if_pos c3] at H
    have c3b0 := decide_eq_true c3
    clear c3
    by_cases c4 : 0 ≤ x8_1
    ·
     rw [if_pos c4] at H
     have c4b0 := decide_eq_true c4
     clear c4
     by_cases c5 : x8_1 < (l0.length : Int)
     ·
      rw [if_pos c5] at H
      have c5b0 := decide_eq_true c5
      clear c5
      by_cases c6 : a1 = (rd l0 x8_1)
      ·
       rw [if_pos c6] at H
       have c6b0 : (a1 == (rd l0 x8_1)) = true := beq_iff_eq.mpr c6
       have c6b1 : (a1 != (rd l0 x8_1)) = false := bne_eq_false_iff_eq.mpr c6
       clear c6
       obtain rfl := Option.some.inj H
       have p404 : 0 ≤ (x8_1 : Int) := od_
       have q404 : x8_1 < (l0.length : Int) := od_
       obtain ⟨ad404, e404, hx404_0⟩ := Kd.at_int HR0.out x8_1 p404 q404
       cases e404
       replace p404 := eq_true p404
       replace q404 := eq_true q404
       go_wp2
       go_ret
       exact ⟨ry_, by repeat (first | exact Drawn0.refl _ | apply Drawn0.step)⟩
      ·
       rw [if_neg c6] at H
       have c6b0 : (a1 == (rd l0 x8_1)) = false := beq_eq_false_iff_ne.mpr c6
       have c6b1 : (a1 != (rd l0 x8_1)) = true := bne_iff_ne.mpr c6
       have H' := ak_ H
       clear H
       have p404 : 0 ≤ (x8_1 : Int) := od_
       have q404 : x8_1 < (l0.length : Int) := od_
       obtain ⟨ad404, e404, hx404_0⟩ := Kd.at_int HR0.out x8_1 p404 q404
       cases e404
       replace p404 := eq_true p404
       replace q404 := eq_true q404
       go_wp2
       go_roundg k1
       case measure => have := HK1.out; omega
       case rel => exact ⟨(wrap64 (x8_1 + 1)), (ry_), H', ⟨by have := HK1.out; omega⟩, by repeat (first | exact Drawn0.refl _ | apply Drawn0.step)⟩
     ·
      rw [if_neg c5] at H
      exact absurd H (by simp)
    ·
     rw [if_neg c4] at H
     exact absurd H (by simp)
   ·
    rw [if_neg c3] at H
    have c3b0 := decide_eq_false c3
    clear c3
    obtain rfl := Option.some.inj H
    go_wp2
    go_ret
    exact ⟨ry_, by repeat (first | exact Drawn0.refl _ | apply Drawn0.step)⟩
def slices_Contains_int_int.f (k : Nat) (l0 : List Int) (a1 : Int) : Option (Bool) := (slices_Index_int_int.f k l0 a1).bind fun t405 => (some (decide (t405 ≥ 0)))
theorem slices_Contains_int_int.calls (k : Nat) (A0 : Option Addr) (c0 : Nat) (l0 : List Int) (a1 : Int) (r : Bool) (w : World) (hr0 : Kd.C (Kd.int .i64) w A0 l0.length l0) (hc0 : l0.length ≤ c0) (h : slices_Contains_int_int.f k l0 a1 = some r) :
  Calls Try.prog 109 #[.slice A0 l0.length c0, .int .i64 a1] w fun e w' => e = .returned (.bool r) ∧ Drawn0 w w' := by
 have HR0 := ak_ hr0
 have HC0 := ak_ hc0
 clear hr0 hc0
 have H : ((slices_Index_int_int.f k l0 a1).bind fun t405 => (some (decide (t405 ≥ 0)))) = some r := h
 clear h
 replace H := Option.bind_eq_some_iff.mp H
 obtain ⟨t405, A30, H⟩ := H
 replace H : (some (decide (t405 ≥ 0))) = some r := H
 have A3 := ak_ A30
 clear A30
 obtain rfl := Option.some.inj H
 go_enter Try.func109, Try.ntmps109
 go_wp2_with (first | ((with_reducible refine gate_callee (f := 124) rfl ?_); refine goesL_ (some 7) rfl rfl Try.func124 (by kernel_rfl) rfl #[.slice A0 l0.length c0, .int .i64 a1] rfl rs_ ?_; (with_reducible refine (slices_Index_int_int.calls k _ _ l0 a1 t405 _ ?side1 ?side2 A3.out).mono ?_); (case side1 => exact cs_ (HR0.out)); (case side2 => exact HC0.out); rintro e w' ⟨rfl, ⟨nd, rfl⟩⟩; refine ⟨_, rfl, ?_⟩))
 go_ret
 exact ⟨ry_, by repeat (first | exact Drawn0.refl _ | apply Drawn0.step)⟩
def impl_share.f (k : Nat) (a b : List Int) : Option Bool := anyO (fun x => slices_Contains_int_int.f k b x) a
theorem impl_share.calls_1 (k : Nat) (B : Nat) (Ab : Option Addr) (cb : Nat) (b : List Int) (x : Int) (r : Bool) (W : World) (h1 : W.cell? ⟨B, 0, none⟩ = some (.slice Ab b.length cb)) (hb : (Kd.int .i64).C W Ab b.length b) (hcb : b.length ≤ cb) (h : slices_Contains_int_int.f k b x = some r) :
  Calls Try.prog 108 #[.int .i64 x, .pointer (some ⟨B, 0, none⟩)] W fun e w' => e = .returned (.bool r) ∧ Below W.heap.size W w' := by
 have A1 := ak_ fun (W' : World) (hb' : Below W.heap.size W W') => slices_Contains_int_int.calls k Ab cb b x r W' (Kd.C_below hb hb') hcb h
 have HB := ak_ (Below.refl W.heap.size W)
 clear h hb hcb
 go_enter Try.func108, Try.ntmps108
 go_wp2_with (go_at_call 109; refine (A1.out _ (bb_ HB.out)).mono ?_; rintro e w6 ⟨rfl, hd⟩; replace HB := ak_ (bs_ (bb_ HB.out) hd.below); clear hd)
 first | go_ret | go_ret2
 exact ⟨rfl, (bb_ HB.out)⟩
theorem impl_share.calls (k : Nat) (Aa : Option Addr) (ca : Nat) (a : List Int) (Ab : Option Addr) (cb : Nat) (b : List Int) (r : Bool) (w : World)
  (ha : Kd.C (Kd.int .i64) w Aa a.length a) (hca : a.length ≤ ca) (hb0 : Kd.C (Kd.int .i64) w Ab b.length b) (hcb : b.length ≤ cb) (h : impl_share.f k a b = some r) :
  Calls Try.prog 93 #[.slice Aa a.length ca, .slice Ab b.length cb] w fun e w' => e = .returned (.bool r) ∧ Below w.heap.size w w' := by
 unfold impl_share.f at h
 have A2 := ak_ fun (g : Nat) (W : World) (hb : Below w.heap.size w W) (hg : ∀ W', Below W.heap.size W W' → W'.cell? ⟨g, 0, none⟩ = some (.slice Ab b.length cb)) =>
  slices_ContainsFunc_int_int.calls_fn 108 #[.pointer (some ⟨g, 0, none⟩)] (enters_of Try.func108 (by kernel_rfl) rfl) (fun x => slices_Contains_int_int.f k b x) Aa ca a W (Kd.C_below ha hb) (fun W' x r' hb' hx => impl_share.calls_1 k g Ab cb b x r' W' (hg W' hb') (Kd.C_below hb0 (bs_ hb hb')) hcb hx) r h
 have HB := ak_ (Below.refl w.heap.size w)
 clear h ha hca hb0 hcb
 go_enter Try.func93, Try.ntmps93
 go_wp2_with (first | ((with_reducible refine gate_dst (N := 3) rfl ?_); refine bx_ 3 #[.slice Ab b.length cb] 22 ?_; intro gb3 hg w3 hbox hb; have nb_ := ak_ (bs_ (bb_ HB.out) hb); have nc_ := ak_ hbox; have nd_ := ak_ ((by rw [hg]; exact (bz_ (bb_ HB.out)) : w.heap.size ≤ gb3)); clear HB hb hbox hg; have HB := nb_; have BK3 := nc_; have GE3 := nd_; clear nb_ nc_ nd_; have hz3_0 := (blk_cell BK3.out 0); have hf3_0 := (blk_frozen BK3.out 0); simp at hz3_0; skip) | (go_at_call 94; refine (A2.out gb3 _ (bb_ HB.out) (fun W' hb' => (blk_cell (blk_below (pk BK3.out) hb') 0).trans rfl)).mono ?_; rintro e w7 ⟨rfl, hb⟩; replace HB := ak_ (bs_ (bb_ HB.out) hb); clear hb))
 first | go_ret | go_ret2
 exact ⟨rfl, (bb_ HB.out)⟩
end Go.Proofs.Ytmdbhpbogbekmaa.QNt
