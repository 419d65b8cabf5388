/- Contracts of functions of the given program, walked. Conditions: those at each theorem. -/
import Derived.Test.YthkchdfkeieabaaQGrx0
import Derived.Test.YthkchdfkeieabaaQGrx1
namespace Go.Proofs.Ythkchdfkeieabaa.QGr
open Go.RowKit Go.Proofs.YthkchdfkeieabaaW.PrintWords Go.Proofs.YthkchdfkeieabaaW.PrintLast Go.Proofs.YthkchdfkeieabaaW.PrintMore
open List (setIfInBounds_toArray set_cons_zero set_cons_succ map_toArray map_cons map_nil)
attribute [local go_sem] max2_int min2_int max_two min_two max_three min_three max_four min_four
set_option linter.unusedVariables false
set_option maxHeartbeats 8000000
set_option maxRecDepth 100000
set_option linter.unusedSimpArgs false
mutual
def spec_seIndex.j0 : Nat → Int → List Bool → Bool → Option (Int)
 | 0, _, _, _ => none
 | k + 1, x3, x153000, x153001 => spec_seIndex.l0 k x3 x153000 (x153000.length : Int) 0
def spec_seIndex.l0 : Nat → Int → List Bool → Int → Int → Option (Int)
 | 0, _, _, _, _ => none
 | k + 1, x3, x9, x10, x11 => if x11 < x10 then (if 0 ≤ x11 then (if x11 < (x9.length : Int) then (if rdOf false x9 x11 = true then (spec_seIndex.l0 k (wrap64 ((wrap64 (x3 * 2)) + 1)) x9 x10 (wrap64 (x11 + 1))) else (spec_seIndex.l0 k (wrap64 (x3 * 2)) x9 x10 (wrap64 (x11 + 1)))) else (none)) else (none)) else (some x3)
end
def spec_seIndex.f (k : Nat) (l0_0 : List Bool) (a0_1 : Bool) : Option (Int) := if a0_1 = true then (spec_seIndex.j0 k 1 l0_0 a0_1) else (spec_seIndex.j0 k 0 l0_0 a0_1)
theorem spec_seIndex.mono_l : ∀ k, (∀ y0 y1 y2, LeO (spec_seIndex.j0 k y0 y1 y2) (spec_seIndex.j0 (k + 1) y0 y1 y2)) ∧ (∀ y0 y1 y2 y3, LeO (spec_seIndex.l0 k y0 y1 y2 y3) (spec_seIndex.l0 (k + 1) y0 y1 y2 y3))
 | 0 => ⟨fun _ _ _ r h => by simp [spec_seIndex.j0] at h, fun _ _ _ _ r h => by simp [spec_seIndex.l0] at h⟩
 | k + 1 => by
  obtain ⟨ih0, ih1⟩ := spec_seIndex.mono_l k
  refine ⟨?_, ?_⟩
  ·intro y0 y1 y2
   unfold spec_seIndex.j0
   repeat' first
   | (with_reducible first | exact ih0 _ _ _ | exact ih1 _ _ _ _ | exact LeO.refl _ | exact LeO.none _ | refine LeO.ite ?_ ?_ | refine LeO.bind ?_ (fun _ => ?_))
  ·intro y0 y1 y2 y3
   unfold spec_seIndex.l0
   repeat' first
   | (with_reducible first | exact ih0 _ _ _ | exact ih1 _ _ _ _ | exact LeO.refl _ | exact LeO.none _ | refine LeO.ite ?_ ?_ | refine LeO.bind ?_ (fun _ => ?_))
theorem spec_seIndex.mono : ∀ a0 a1 k, LeO (spec_seIndex.f k a0 a1) (spec_seIndex.f (k + 1) a0 a1) := by
 intro a0 a1 k
 obtain ⟨ih0, ih1⟩ := spec_seIndex.mono_l k
 unfold spec_seIndex.f
 repeat' first
  | (with_reducible first | exact ih0 _ _ _ | exact ih1 _ _ _ _ | exact LeO.refl _ | exact LeO.none _ | refine LeO.ite ?_ ?_ | refine LeO.bind ?_ (fun _ => ?_))
theorem spec_seIndex.calls (k : Nat) (A0_0 : Option Addr) (c0_0 : Nat) (l0_0 : List Bool) (a0_1 : Bool) (r : Int) (w : World) (hr0_0 : Kd.C Kd.bool w A0_0 l0_0.length l0_0) (hc0_0 : l0_0.length ≤ c0_0) (h : spec_seIndex.f k l0_0 a0_1 = some r) :
  Calls Try.prog 91 #[.agg #[.slice A0_0 l0_0.length c0_0, .bool a0_1]] w fun e w' => e = .returned (.int .i64 r) ∧ Below w.heap.size w w' := by
 have hu115 := Try.underlying115
 have HR0_0 := ak_ hr0_0
 have HC0_0 := ak_ hc0_0
 clear hr0_0 hc0_0
 have HB := ak_ (Below.refl w.heap.size w)
 have H : (if a0_1 = true then (spec_seIndex.j0 k 1 l0_0 a0_1) else (spec_seIndex.j0 k 0 l0_0 a0_1)) = some r := h
 clear h
 have HC2 := ak_ H
 clear H
 go_enter Try.func91, Try.ntmps91
 go_upto_if 7 with (first | ((with_reducible refine gate_dst (N := 1) rfl ?_); refine bx_ 1 #[.slice A0_0 l0_0.length c0_0, .bool a0_1] 115 ?_; intro gb152 hg w3 hbox hb; have n0_ := ak_ (bs_ (bb_ HB.out) hb); have n1_ := ak_ (hbox); have n2_ := ak_ ((by rw [hg]; exact (bz_ (bb_ HB.out)) : w.heap.size ≤ gb152)); have n3_ := n2_; clear HB; have HB := n0_; have BK152 := n1_; have GW152 := n2_; have GE152 := n3_; clear n0_ n1_ n2_ n3_; clear hb hbox hg; obtain ⟨hcz4_0, hcz4_1, hfz4_0, hfz4_1⟩ := c2_ BK152.out))
 (try simp only [Act.put, setIfInBounds_toArray, set_cons_zero, set_cons_succ])
 go_cut [3] (fun v3 wc => ∃ (kq : Nat) (x3_1 : Int), v3 = .int .i64 x3_1 ∧ Aside0 (spec_seIndex.j0 kq x3_1 l0_0 a0_1 = some r) ∧ Aside0 (kq ≤ k) ∧ Aside0 (wc.heap[gb152]? = some (.cells #[(.slice A0_0 l0_0.length c0_0), .bool a0_1] 115 (0, 0))) ∧ Aside0 (Below w.heap.size w wc))
 case first =>
  have H := HC2.out
  clear HC2
  by_cases c5 : a0_1 = true
  ·
   subst c5
   have H1 : (spec_seIndex.j0 k 1 l0_0 true) = some r := by rw [if_pos rfl] at H; exact H
   clear H
   have H := H1
   clear H1
   have H' := ak_ H
   clear H
   go_wp2
   go_meet
   case rel => exact ⟨_, (1), (ry_), H', ⟨by first | omega | exact Nat.le_refl _⟩, ⟨pk BK152.out⟩, ⟨by repeat (first | exact HB.out | apply ba_ | apply bN_ | apply b1_ | refine below_set ?_ GE152.out)⟩⟩
  ·
   replace c5 := Bool.eq_false_iff.mpr c5
   subst c5
   have H1 : (spec_seIndex.j0 k 0 l0_0 false) = some r := by rw [if_neg (show ¬ (false = true) by decide)] at H; exact H
   clear H
   have H := H1
   clear H1
   have H' := ak_ H
   clear H
   go_wp2
   go_meet
   case rel => exact ⟨_, (0), (ry_), H', ⟨by first | omega | exact Nat.le_refl _⟩, ⟨pk BK152.out⟩, ⟨by repeat (first | exact HB.out | apply ba_ | apply bN_ | apply b1_ | refine below_set ?_ GE152.out)⟩⟩
 case rest =>
  clear HC2
  try clear p2
  try clear c5
  try clear hcz4_0
  try clear hcz4_1
  try clear hfz4_0
  try clear hfz4_1
  obtain ⟨kq, x3_1, rfl, HA, HJ1, BK152, HB⟩ := hcut
  cases kq with
  | zero => exact absurd HA.out (by simp [spec_seIndex.j0])
  | succ kj1 =>
   have H := HA.out
   clear HA
   simp only [spec_seIndex.j0] at H
   have H' := ak_ H
   clear H
   obtain ⟨hcz6_0, hcz6_1, hfz6_0, hfz6_1⟩ := c2_ BK152.out
   go_wp2
   go_loopg [3, 11] kj1 (fun kq v3 v11 w' => ∃ (x3_2 : Int) (x11_2 : Int), v3 = .int .i64 x3_2 ∧ v11 = .int .i64 x11_2 ∧ Aside0 (spec_seIndex.l0 kq x3_2 l0_0 (l0_0.length : Int) x11_2 = some r) ∧ Aside0 (kq ≤ kj1) ∧ Aside0 (w'.heap[gb152]? = some (.cells #[(.slice A0_0 l0_0.length c0_0), .bool a0_1] 115 (0, 0))) ∧ Aside0 (Below w.heap.size w w'))
   case atStart => exact ⟨(x3_1), (0), (ry_), (ry_), H', ⟨Nat.le_refl _⟩, ⟨pk BK152.out⟩, ⟨by repeat (first | exact HB.out | apply ba_ | apply bN_ | apply b1_ | refine below_set ?_ GE152.out)⟩⟩
   case round =>
    clear H'
    try clear p2
    try clear c5
    try clear hcz4_0
    try clear hcz4_1
    try clear hcz6_0
    try clear hcz6_1
    try clear hfz4_0
    try clear hfz4_1
    try clear hfz6_0
    try clear hfz6_1
    try clear p2
    obtain ⟨x3_2, x11_2, rfl, rfl, HA, HK2, BK152, HB⟩ := hrel
    cases gk with
    | zero => exact absurd HA.out (by simp [spec_seIndex.l0])
    | succ k2 =>
     have H := HA.out
     clear HA
     simp only [spec_seIndex.l0] at H
     by_cases c7 : x11_2 < (l0_0.length : Int)
     ·
      rw [if_pos c7] at H
      have c7b0 : decide (x11_2 < (l0_0.length : Int)) = true := decide_eq_true c7
      clear c7
      by_cases c8 : 0 ≤ x11_2
      ·
       rw [if_pos c8] at H
       have c8b0 : decide (0 ≤ x11_2) = true := decide_eq_true c8
       clear c8
       by_cases c9 : x11_2 < (l0_0.length : Int)
       ·
        rw [if_pos c9] at H
        have c9b0 : decide (x11_2 < (l0_0.length : Int)) = true := decide_eq_true c9
        clear c9
        obtain ⟨bq10, hbq10⟩ : ∃ b_ : Bool, b_ = (rdOf false l0_0 x11_2) := ⟨_, rfl⟩
        replace H : (if bq10 = true then (spec_seIndex.l0 k2 (wrap64 ((wrap64 (x3_2 * 2)) + 1)) l0_0 (l0_0.length : Int) (wrap64 (x11_2 + 1))) else (spec_seIndex.l0 k2 (wrap64 (x3_2 * 2)) l0_0 (l0_0.length : Int) (wrap64 (x11_2 + 1)))) = some r := by rw [← hbq10] at H; exact H
        have Nbq10 := ak_ hbq10
        clear hbq10
        by_cases c11 : bq10 = true
        ·
         subst c11
         have H1 : (spec_seIndex.l0 k2 (wrap64 ((wrap64 (x3_2 * 2)) + 1)) l0_0 (l0_0.length : Int) (wrap64 (x11_2 + 1))) = some r := by rw [if_pos rfl] at H; exact H
         clear H
         have H := H1
         clear H1
         have H' := ak_ H
         clear H
         have p153 : 0 ≤ (x11_2 : Int) := odt_ (by assumption)
         have q153 : x11_2 < (l0_0.length : Int) := odt_ (by assumption)
         obtain ⟨ad153, e153, hx153_0⟩ := Kd.at_bool HR0_0.out x11_2 p153 q153
         (try rw [← Nbq10.out] at hx153_0)
         cases e153
         try replace hx153_0 := (HB.out.cell (World.block_lt_of_cell? w _ hx153_0)).trans hx153_0
         replace p153 := eq_true p153
         replace q153 := eq_true q153
         go_wp2
         go_roundg k2
         case measure => have := HJ1.out; have := HK2.out; omega
         case rel => exact ⟨(wrap64 ((wrap64 (x3_2 * 2)) + 1)), (wrap64 (x11_2 + 1)), (ry_), (ry_), H', ⟨by have := HJ1.out; have := HK2.out; omega⟩, ⟨pk BK152.out⟩, ⟨by repeat (first | exact HB.out | apply ba_ | apply bN_ | apply b1_ | refine below_set ?_ GE152.out)⟩⟩
        ·
         replace c11 := Bool.eq_false_iff.mpr c11
         subst c11
         have H1 : (spec_seIndex.l0 k2 (wrap64 (x3_2 * 2)) l0_0 (l0_0.length : Int) (wrap64 (x11_2 + 1))) = some r := by rw [if_neg (show ¬ (false = true) by decide)] at H; exact H
         clear H
         have H := H1
         clear H1
         have H' := ak_ H
         clear H
         have p153 : 0 ≤ (x11_2 : Int) := odt_ (by assumption)
         have q153 : x11_2 < (l0_0.length : Int) := odt_ (by assumption)
         obtain ⟨ad153, e153, hx153_0⟩ := Kd.at_bool HR0_0.out x11_2 p153 q153
         (try rw [← Nbq10.out] at hx153_0)
         cases e153
         try replace hx153_0 := (HB.out.cell (World.block_lt_of_cell? w _ hx153_0)).trans hx153_0
         replace p153 := eq_true p153
         replace q153 := eq_true q153
         go_wp2
         go_roundg k2
         case measure => have := HJ1.out; have := HK2.out; omega
         case rel => exact ⟨(wrap64 (x3_2 * 2)), (wrap64 (x11_2 + 1)), (ry_), (ry_), H', ⟨by have := HJ1.out; have := HK2.out; omega⟩, ⟨pk BK152.out⟩, ⟨by repeat (first | exact HB.out | apply ba_ | apply bN_ | apply b1_ | refine below_set ?_ GE152.out)⟩⟩
       ·
        rw [if_neg c9] at H
        exact absurd H (by simp)
      ·
       rw [if_neg c8] at H
       exact absurd H (by simp)
     ·
      rw [if_neg c7] at H
      have c7b0 : decide (x11_2 < (l0_0.length : Int)) = false := decide_eq_false c7
      clear c7
      obtain rfl := Option.some.inj H
      go_wp2
      go_ret
      exact ⟨rx_, by repeat (first | exact HB.out | apply ba_ | apply bN_ | apply b1_ | refine below_set ?_ GE152.out)⟩
def spec_keIndex.f (k : Nat) (l0_0 : List Bool) (a0_1 : Bool) : Option (Int) := (spec_seIndex.f k l0_0 a0_1).bind fun t155 => (some t155)
theorem spec_keIndex.mono : ∀ a0 a1 k, LeO (spec_keIndex.f k a0 a1) (spec_keIndex.f (k + 1) a0 a1) := by
 intro a0 a1 k
 unfold spec_keIndex.f
 repeat' first
  | (with_reducible first | exact spec_seIndex.mono _ _ _ | exact LeO.refl _ | exact LeO.none _ | refine LeO.ite ?_ ?_ | refine LeO.bind ?_ (fun _ => ?_))
theorem spec_keIndex.calls (k : Nat) (A0_0 : Option Addr) (c0_0 : Nat) (l0_0 : List Bool) (a0_1 : Bool) (r : Int) (w : World) (hr0_0 : Kd.C Kd.bool w A0_0 l0_0.length l0_0) (hc0_0 : l0_0.length ≤ c0_0) (h : spec_keIndex.f k l0_0 a0_1 = some r) :
  Calls Try.prog 63 #[.agg #[.slice A0_0 l0_0.length c0_0, .bool a0_1]] w fun e w' => e = .returned (.int .i64 r) ∧ Below w.heap.size w w' := by
 have hu90 := Try.underlying90
 have hu115 := Try.underlying115
 have HR0_0 := ak_ hr0_0
 have HC0_0 := ak_ hc0_0
 clear hr0_0 hc0_0
 have HB := ak_ (Below.refl w.heap.size w)
 have H : ((spec_seIndex.f k l0_0 a0_1).bind fun t155 => (some t155)) = some r := h
 clear h
 replace H := Option.bind_eq_some_iff.mp H
 obtain ⟨t155, A20, H⟩ := H
 replace H : (some t155) = some r := H
 have A2 := ak_ A20
 clear A20
 obtain rfl := Option.some.inj H
 go_enter Try.func63, Try.ntmps63
 go_wp2_with (first | ((with_reducible refine gate_dst (N := 1) rfl ?_); refine bx_ 1 #[.slice A0_0 l0_0.length c0_0, .bool a0_1] 90 ?_; intro gb154 hg w3 hbox hb; have n0_ := ak_ (bs_ (bb_ HB.out) hb); have n1_ := ak_ (hbox); have n2_ := ak_ ((by rw [hg]; exact (bz_ (bb_ HB.out)) : w.heap.size ≤ gb154)); have n3_ := n2_; clear HB; have HB := n0_; have BK154 := n1_; have GW154 := n2_; have GE154 := n3_; clear n0_ n1_ n2_ n3_; clear hb hbox hg; obtain ⟨hcz4_0, hcz4_1, hfz4_0, hfz4_1⟩ := c2_ BK154.out) | ((with_reducible refine gate_callee (f := 91) rfl ?_); refine goesL_ (some 8) rfl rfl Try.func91 (by kernel_rfl) rfl #[.agg #[.slice A0_0 l0_0.length c0_0, .bool a0_1]] rfl (by first | rfl | (simp only [map_toArray, map_cons, map_nil]; try rfl)) ?_; (with_reducible refine (spec_seIndex.calls k _ _ l0_0 a0_1 t155 _ ?side1 ?side2 A2.out).mono ?_); (case side1 => exact cs_ (Kd.C_below HR0_0.out HB.out)); (case side2 => exact HC0_0.out); rintro e w5 ⟨rfl, hb⟩; refine ⟨_, rfl, ?_⟩; have n0_ := ak_ (blk_below (pk BK154.out) hb); have n1_ := ak_ (bs_ bl_ hb); clear BK154; clear HB; have BK154 := n0_; have HB := n1_; clear n0_ n1_; (try clear hb); (try clear hb2); (try clear hk); (try clear hi)))
 go_ret
 exact ⟨rx_, by repeat (first | exact HB.out | apply ba_ | apply bN_ | apply b1_ | refine below_set ?_ GE154.out)⟩
def spec_l1Own.f (l0 : List Int) : Option (List Int) := (some (([] : List Int) : List Int)).bind fun y156 => (if y156.length + l0.length < 17592186044416 then (some (y156 ++ l0)) else (none))
theorem spec_l1Own.calls (A0 : Option Addr) (c0 : Nat) (l0 : List Int) (r : List Int) (w : World) (hr0 : Kd.C (Kd.int .i64) w A0 l0.length l0) (hc0 : l0.length ≤ c0) (h : spec_l1Own.f l0 = some r) :
  Calls Try.prog 130 #[.slice A0 l0.length c0] w fun e w' => ∃ v0_ : Value, e = .returned (v0_) ∧ Kd.R (Kd.int .i64) 3 w' w.heap.size (fun _ => True) v0_ r ∧ Below w.heap.size w w' := by
 have HR0 := ak_ hr0
 have HC0 := ak_ hc0
 clear hr0 hc0
 have HB := ak_ (Below.refl w.heap.size w)
 have H : ((some (([] : List Int) : List Int)).bind fun y156 => (if y156.length + l0.length < 17592186044416 then (some (y156 ++ l0)) else (none))) = some r := h
 clear h
 obtain ⟨y156, hy156⟩ : ∃ y_ : List Int, y_ = (([] : List Int)) := ⟨_, rfl⟩
 replace H : (if y156.length + l0.length < 17592186044416 then (some (y156 ++ l0)) else (none)) = some r := by first | (rw [hy156]; exact H) | exact H
 have Ny156 := ak_ hy156
 clear hy156
 by_cases c2 : y156.length + l0.length < 17592186044416
 ·
  rw [if_pos c2] at H
  have LMc2 := ak_ c2
  clear c2
  obtain ⟨y159, hy159⟩ : ∃ y_ : List Int, y_ = (y156 ++ l0) := ⟨_, rfl⟩
  replace H : (some y159) = some r := by first | (rw [hy159]; exact H) | exact H
  have Ny159 := ak_ hy159
  clear hy159
  obtain rfl := Option.some.inj H
  go_enter Try.func130, Try.ntmps130
  go_wp2_with (first | ((with_reducible refine gate_dst (N := 3) rfl ?_); refine Kd.R_lit (Kd.int .i64) _ 3 ?hg (N := 3) ?hd (xs := ([] : List Int)) (inner := []) (ok := fun _ => True) (okp := fun _ => True) ?hr ?hp (fun _ hk => hk) trivial (Below.refl _ _) (Nat.le_refl _) (by simp) ?_; (case hd => rfl); (case hg => rfl); (case hr => go_simp <;> rfl); (case hp => exact (Reps.none _ _)); intro v157 w3 ho4 hb hg_ hnew_; clear hg_ hnew_; (first | rw [← Ny156.out] at ho4 | (simp only [Int.reduceToNat] at ho4; rw [← Ny156.out] at ho4)); have n0_ := ak_ (Kd.R_lower ho4 (bz_ (bb_ HB.out))); have n1_ := ak_ (bs_ (bb_ HB.out) hb); clear HB; have HO158 := n0_; have HB := n1_; clear n0_ n1_; clear hb ho4) | ((with_reducible refine gate_builtin (b := .append) (xs := #[.tmp 3, .tmp 4]) rfl ?_); at_builtin; refine Kd.R_append_rows (Kd.int .i64) (w0 := w) w.heap.size rfl (.tmp 3) (.tmp 4) 29 3 (.int .i64 0) 8 rfl Try.underlying29 info3 rfl (by decide) (by omega) v157 y156 l0 _ _ _ (fun _ => True) (fun _ => False) rfl rfl ?aO ?aR (fun _ _ h => h) (fun _ h => h.elim) ?aF ?aB ?aS ?aL ?_; (case aR => repeat (first | exact (Kd.C_below HR0.out HB.out) | (with_reducible refine Kd.C_alloc ?_ _) | (with_reducible refine Kd.C_drewN ?_ _) | (with_reducible refine Kd.C_drew ?_))); (case aB => exact (bb_ HB.out)); (case aF => exact (fun _ _ => trivial)); (case aO => exact (Kd.pR HO158.out)); (case aS => exact (bz_ (bb_ HB.out))); (case aL => have := LMc2.out; omega); intro v160 w5 ho hb hg hat; rw [← Ny159.out] at ho; have n0_ := ak_ (hb); have n1_ := ak_ (ho); clear HB; clear HO158; have HB := n0_; have HO161 := n1_; clear n0_ n1_; clear ho hb hg hat))
  go_ret
  exact ⟨_, rx_, by (with_reducible repeat (first | apply Kd.R_alloc | apply Kd.R_drewN | apply Kd.R_drew)); exact HO161.out, bb_ HB.out⟩
 ·
  rw [if_neg c2] at H
  exact absurd H (by simp)
mutual
def spec_paGroups.j0 : Nat → List Int → List Int → Int → Int → List (List Int) → Option ((List (List Int)))
 | 0, _, _, _, _, _ => none
 | k + 1, x0, x1, x2, x3, x9 => if (x1.length : Int) = x3 then (some x9) else (spec_paGroups.l0 k x0 x1 x3 x9 x2)
def spec_paGroups.l0 : Nat → List Int → List Int → Int → List (List Int) → Int → Option ((List (List Int)))
 | 0, _, _, _, _, _ => none
 | k + 1, x0, x1, x3, x9, x10 => if x10 < (x0.length : Int) then ((spec_l1Own.f x1).bind fun t171 => (if 0 ≤ x10 then ((some (([rd x0 x10] : List Int) : List Int)).bind fun y175 => (if t171.length + y175.length < 17592186044416 then ((spec_paGroups.f k x0 (t171 ++ y175) (wrap64 (x10 + 1)) x3).bind fun t181 => (if x9.length + t181.length < 5864062014805 then (spec_paGroups.l0 k x0 x1 x3 (x9 ++ t181) (wrap64 (x10 + 1))) else (none))) else (none))) else (none))) else (some x9)
def spec_paGroups.f : Nat → List Int → List Int → Int → Int → Option ((List (List Int)))
 | 0, _, _, _, _ => none
 | k + 1, l0, l1, a2, a3 => if (l1.length : Int) > 0 then ((spec_l1Own.f l1).bind fun t162 => ((some (([t162] : List (List Int)) : List (List Int))).bind fun y165 => (if ([] : List (List Int)).length + y165.length < 5864062014805 then (spec_paGroups.j0 k l0 l1 a2 a3 (([] : List (List Int)) ++ y165)) else (none)))) else (spec_paGroups.j0 k l0 l1 a2 a3 ([] : List (List Int)))
end
theorem spec_paGroups.mono_l : ∀ k, (∀ y0 y1 y2 y3, LeO (spec_paGroups.f k y0 y1 y2 y3) (spec_paGroups.f (k + 1) y0 y1 y2 y3)) ∧ (∀ y0 y1 y2 y3 y4, LeO (spec_paGroups.j0 k y0 y1 y2 y3 y4) (spec_paGroups.j0 (k + 1) y0 y1 y2 y3 y4)) ∧ (∀ y0 y1 y2 y3 y4, LeO (spec_paGroups.l0 k y0 y1 y2 y3 y4) (spec_paGroups.l0 (k + 1) y0 y1 y2 y3 y4))
 | 0 => ⟨fun _ _ _ _ r h => by simp [spec_paGroups.f] at h, fun _ _ _ _ _ r h => by simp [spec_paGroups.j0] at h, fun _ _ _ _ _ r h => by simp [spec_paGroups.l0] at h⟩
 | k + 1 => by
  obtain ⟨ih0, ih1, ih2⟩ := spec_paGroups.mono_l k
  refine ⟨?_, ?_, ?_⟩
  ·intro y0 y1 y2 y3
   unfold spec_paGroups.f
   repeat' first
   | (with_reducible first | exact ih0 _ _ _ _ | exact ih1 _ _ _ _ _ | exact ih2 _ _ _ _ _ | exact LeO.refl _ | exact LeO.none _ | refine LeO.ite ?_ ?_ | refine LeO.bind ?_ (fun _ => ?_))
  ·intro y0 y1 y2 y3 y4
   unfold spec_paGroups.j0
   repeat' first
   | (with_reducible first | exact ih0 _ _ _ _ | exact ih1 _ _ _ _ _ | exact ih2 _ _ _ _ _ | exact LeO.refl _ | exact LeO.none _ | refine LeO.ite ?_ ?_ | refine LeO.bind ?_ (fun _ => ?_))
  ·intro y0 y1 y2 y3 y4
   unfold spec_paGroups.l0
   repeat' first
   | (with_reducible first | exact ih0 _ _ _ _ | exact ih1 _ _ _ _ _ | exact ih2 _ _ _ _ _ | exact LeO.refl _ | exact LeO.none _ | refine LeO.ite ?_ ?_ | refine LeO.bind ?_ (fun _ => ?_))
theorem spec_paGroups.mono : ∀ a0 a1 a2 a3 k, LeO (spec_paGroups.f k a0 a1 a2 a3) (spec_paGroups.f (k + 1) a0 a1 a2 a3) := by
 intro a0 a1 a2 a3 k
 obtain ⟨ih0, ih1, ih2⟩ := spec_paGroups.mono_l k
 exact ih0 a0 a1 a2 a3
def spec_paGroups.T9 : Bool × List (List Nat × List Nat) := (true, [([], []), ([], []), ([], []), ([2], [2]), ([], []), ([], []), ([4, 5], [4, 5]), ([6], [6]), ([7], [7]), ([3, 8, 3], [3, 8]), ([], []), ([10], [10]), ([], []), ([1, 9, 11, 12, 9], [1, 9, 11, 12]), ([0, 13, 13], [0, 13]), ([14, 14, 0, 1, 2, 3, 4, 5, 6, 7, 8, 9, 10, 11, 12, 13, 14], [0, 14])])
def spec_paGroups.B9 : List Nat := [0, 0, 0, 4, 0, 0, 48, 112, 240, 508, 0, 1024, 0, 8190, 16383, 32767]
theorem spec_paGroups.tab9 : rtab .any (opsOf Try.f109 9) = spec_paGroups.T9 := by kernel_rfl
theorem spec_paGroups.bits9 : waitsOk spec_paGroups.T9.2 spec_paGroups.B9 = true := by kernel_rfl
theorem spec_paGroups.calls (k : Nat) : ∀ (A0 : Option Addr) (c0 : Nat) (l0 : List Int) (A1 : Option Addr) (c1 : Nat) (l1 : List Int) (a2 : Int) (a3 : Int) (r : List (List Int)) (w : World) (hr0 : Kd.C (Kd.int .i64) w A0 l0.length l0) (hc0 : l0.length ≤ c0) (hr1 : Kd.C (Kd.int .i64) w A1 l1.length l1) (hc1 : l1.length ≤ c1) (h : spec_paGroups.f k l0 l1 a2 a3 = some r),
  Calls Try.prog 109 #[.slice A0 l0.length c0, .slice A1 l1.length c1, .int .i64 a2, .int .i64 a3] w fun e w' => ∃ v0_ : Value, e = .returned (v0_) ∧ Kd.N (Kd.slice 3 (Kd.int .i64)) 29 w' w.heap.size (fun k_ => (w.heap.size ≤ k_)) v0_ r ∧ Below w.heap.size w w' := by
 induction k using Nat.strongRecOn with
 | _ k ih =>
 intro A0 c0 l0 A1 c1 l1 a2 a3 r w hr0 hc0 hr1 hc1 h
 cases k with
 | zero => exact absurd h (by simp [spec_paGroups.f])
 | succ k =>
 simp only [spec_paGroups.f] at h
 have HR0 := ak_ hr0
 have HC0 := ak_ hc0
 clear hr0 hc0
 have HR1 := ak_ hr1
 have HC1 := ak_ hc1
 clear hr1 hc1
 have HB := ak_ (Below.refl w.heap.size w)
 have H : (if (l1.length : Int) > 0 then ((spec_l1Own.f l1).bind fun t162 => ((some (([t162] : List (List Int)) : List (List Int))).bind fun y165 => (if ([] : List (List Int)).length + y165.length < 5864062014805 then (spec_paGroups.j0 k l0 l1 a2 a3 (([] : List (List Int)) ++ y165)) else (none)))) else (spec_paGroups.j0 k l0 l1 a2 a3 ([] : List (List Int)))) = some r := h
 clear h
 have HC5 := ak_ H
 clear H
 go_enter Try.func109, Try.ntmps109
 go_upto_if 13 with (fail)
 go_cut [9] (fun v9 wc => ∃ (kq : Nat) (x9_4 : List (List Int)), Aside0 (spec_paGroups.j0 kq l0 l1 a2 a3 x9_4 = some r) ∧ Aside0 (kq ≤ k) ∧ Aside0 (Kd.N (Kd.slice 3 (Kd.int .i64)) 29 wc w.heap.size (fun k_ => (w.heap.size ≤ k_)) v9 x9_4) ∧ Aside0 (Below w.heap.size w wc))
 case first =>
  have H := HC5.out
  clear HC5
  by_cases c6 : (l1.length : Int) > 0
  ·
   rw [if_pos c6] at H
   have c6b0 : decide (0 < (l1.length : Int)) = true := decide_eq_true c6
   have c6b1 : decide (0 < l1.length) = true := decide_eq_true (by omega)
   clear c6
   (first | rw [c6b0] | (simp only [i64_w, i32_w]; rw [c6b0]) | rw [c6b1] | skip)
   replace H := Option.bind_eq_some_iff.mp H
   obtain ⟨t162, A70, H⟩ := H
   replace H : ((some (([t162] : List (List Int)) : List (List Int))).bind fun y165 => (if ([] : List (List Int)).length + y165.length < 5864062014805 then (spec_paGroups.j0 k l0 l1 a2 a3 (([] : List (List Int)) ++ y165)) else (none))) = some r := H
   have A7 := ak_ A70
   clear A70
   obtain ⟨y165, hy165⟩ : ∃ y_ : List (List Int), y_ = (([t162] : List (List Int))) := ⟨_, rfl⟩
   replace H : (if ([] : List (List Int)).length + y165.length < 5864062014805 then (spec_paGroups.j0 k l0 l1 a2 a3 (([] : List (List Int)) ++ y165)) else (none)) = some r := by first | (rw [hy165]; exact H) | exact H
   have Ny165 := ak_ hy165
   clear hy165
   by_cases c8 : ([] : List (List Int)).length + y165.length < 5864062014805
   ·
    rw [if_pos c8] at H
    have LMc8 := ak_ c8
    clear c8
    obtain ⟨y168, hy168⟩ : ∃ y_ : List (List Int), y_ = (([] : List (List Int)) ++ y165) := ⟨_, rfl⟩
    replace H : (spec_paGroups.j0 k l0 l1 a2 a3 y168) = some r := by first | (rw [hy168]; exact H) | exact H
    have Ny168 := ak_ hy168
    clear hy168
    have H' := ak_ H
    clear H
    go_wp2_with (first | ((with_reducible refine gate_callee (f := 130) rfl ?_); refine goesL_ (some 16) rfl rfl Try.func130 (by kernel_rfl) rfl #[.slice A1 l1.length c1] rfl (by first | rfl | (simp only [map_toArray, map_cons, map_nil]; try rfl)) ?_; (with_reducible refine (spec_l1Own.calls _ _ l1 t162 _ ?side1 ?side2 A7.out).mono ?_); (case side1 => exact cs_ (Kd.C_below HR1.out HB.out)); (case side2 => exact HC1.out); rintro e w9 ⟨v163, rfl, ho0, hb⟩; refine ⟨_, rfl, ?_⟩; have n0_ := ak_ (Kd.R_lower (Kd.R_newM (M := fun k_ => (w.heap.size ≤ k_)) ho0 (bz_ (bb_ HB.out)) (fun k_ h_ => h_)) (bz_ (bb_ HB.out))); have n1_ := ak_ (bs_ (bb_ HB.out) hb); clear HB; have HO164 := n0_; have HB := n1_; clear n0_ n1_; (try clear hb); (try clear hb2); (try clear hk); (try clear hi); (try clear ho0); obtain ⟨Ao10, co10, eo10⟩ := Kd.R_slice HO164.out; subst eo10) | ((with_reducible refine gate_dst (N := 17) rfl ?_); refine Kd.N_lit (Kd.slice 3 (Kd.int .i64)) _ 29 ?hg (N' := 17) ?hd (xs := ([t162] : List (List Int))) (inner := [.slice Ao10 t162.length co10]) (ok := (fun k_ => (w.heap.size ≤ k_))) (okp := (fun k_ => (w.heap.size ≤ k_))) ?hr ?hp (fun _ hk => hk) ((show ∀ k_, w9.heap.size ≤ k_ → (fun k_ => (w.heap.size ≤ k_)) k_ from fun k_ hk => (Nat.le_trans (bz_ (bb_ HB.out)) hk)) _ (Nat.le_refl _)) (Below.refl _ _) (Nat.le_refl _) (by simp) ?_; (case hd => rfl); (case hg => rfl); (case hr => go_simp <;> rfl); (case hp => exact (Reps.one (show Kd.FK (Kd.slice 3 (Kd.int .i64)) _ _ t162 [.slice Ao10 t162.length co10] from (Kd.FK_slice_mk (Kd.R_reads' (Kd.R_mono (ok' := (fun k_ => (w.heap.size ≤ k_))) (HO164.out) (fun k_ hk => hk.1))).2.1 (Kd.R_F (Kd.R_mono (ok' := (fun k_ => (w.heap.size ≤ k_))) (HO164.out) (fun k_ hk => hk.1))))) (Reps.none _ _))); intro v166 w11 ho12 hb hg_ hnew_; clear hg_ hnew_; (first | rw [← Ny165.out] at ho12 | (simp only [Int.reduceToNat] at ho12; rw [← Ny165.out] at ho12)); have n0_ := ak_ (Kd.N_lower ho12 (bz_ (bb_ HB.out))); have n1_ := ak_ (bs_ (bb_ HB.out) hb); clear HB; clear HO164; have HO167 := n0_; have HB := n1_; clear n0_ n1_; clear hb ho12; obtain ⟨Ao14, co14, eo14⟩ := Kd.N_slice HO167.out; subst eo14) | ((with_reducible refine gate_builtin (b := .append) (xs := #[.tmp 14, .tmp 17]) rfl ?_); at_builtin; refine Kd.N_append_rows (Kd.slice 3 (Kd.int .i64)) (w0 := w) w.heap.size rfl (.tmp 14) (.tmp 17) 47 29 (.slice none 0 0) 24 rfl Try.underlying47 info29 rfl (by decide) (by omega) (.slice none 0 0) ([] : List (List Int)) y165 _ _ _ (fun k_ => (w.heap.size ≤ k_)) (fun k_ => ((fun k_ => (w.heap.size ≤ k_))) k_ ∧ some k_ ≠ (.slice none 0 0 : Value).ownBlock) rfl rfl ?aO ?aR (fun _ hk => hk) ?aF ?aB ?aS ?aL ?_; (case aR => exact (by skip; exact Kd.N_F (Kd.N_mono (ok' := (fun k_ => ((fun k_ => (w.heap.size ≤ k_))) k_ ∧ some k_ ≠ (.slice none 0 0 : Value).ownBlock)) (HO167.out) (fun k_ hk => ⟨hk, (by simp [Value.ownBlock])⟩)))); (case aB => exact (bb_ HB.out)); (case aF => exact (fun k_ hk => (Nat.le_trans (bz_ (bb_ HB.out)) hk))); (case aO => exact ((Kd.N_nil _ _ _ _ (fun k_ => (w.heap.size ≤ k_))))); (case aS => exact (bz_ (bb_ HB.out))); (case aL => have := LMc8.out; omega); intro v169 w13 ho hb hg hat; rw [← Ny168.out] at ho; have n0_ := ak_ (Kd.N_afterv (Kd.N_apart_nil (Kd.pN HO167.out)) hg hat); have n1_ := ak_ (hb); have n2_ := ak_ (ho); clear HO167; clear HB; have HO167 := n0_; have HB := n1_; have HO170 := n2_; clear n0_ n1_ n2_; clear ho hb hg hat))
    go_meet
    case rel => exact ⟨_, (y168), H', ⟨by first | omega | exact Nat.le_refl _⟩, ⟨Kd.pN HO170.out⟩, ⟨bb_ HB.out⟩⟩
   ·
    rw [if_neg c8] at H
    exact absurd H (by simp)
  ·
   rw [if_neg c6] at H
   have c6b0 : decide (0 < (l1.length : Int)) = false := decide_eq_false c6
   have c6b1 : decide (0 < l1.length) = false := decide_eq_false (by omega)
   clear c6
   (first | rw [c6b0] | (simp only [i64_w, i32_w]; rw [c6b0]) | rw [c6b1] | skip)
   have H' := ak_ H
   clear H
   go_wp2
   go_meet
   case rel => exact ⟨_, (([] : List (List Int))), H', ⟨by first | omega | exact Nat.le_refl _⟩, ⟨by first | exact Kd.S_nil _ _ _ _ _ | exact Kd.N_nil _ _ _ _ _ | exact Kd.V_nil _ _ _ _ _ | exact Kd.Q_nil _ _ _ _ _ | exact Kd.R_nil _ _ _ _ _⟩, ⟨bb_ HB.out⟩⟩
 case rest =>
  clear HC5
  try clear c1
  try clear p2
  try clear c6
  try clear c6b0
  try clear c6b1
  try clear c8
  try clear c10
  try clear c13
  obtain ⟨kq, x9_4, HA, HJ4, HO_9, HB⟩ := hcut
  cases kq with
  | zero => exact absurd HA.out (by simp [spec_paGroups.j0])
  | succ kj4 =>
   have H := HA.out
   clear HA
   simp only [spec_paGroups.j0] at H
   by_cases c15 : (l1.length : Int) = a3
   ·
    rw [if_pos c15] at H
    have c15b0 : ((l1.length : Int) == a3) = true := beq_iff_eq.mpr c15
    have c15b1 : ((l1.length : Int) != a3) = false := bne_eq_false_iff_eq.mpr c15
    clear c15
    obtain rfl := Option.some.inj H
    go_wp2
    go_ret
    exact ⟨_, rx_, by (with_reducible repeat (first | apply Kd.N_alloc | apply Kd.N_drewN | apply Kd.N_drew)); exact HO_9.out, bb_ HB.out⟩
   ·
    rw [if_neg c15] at H
    have c15b0 : ((l1.length : Int) == a3) = false := beq_eq_false_iff_ne.mpr c15
    have c15b1 : ((l1.length : Int) != a3) = true := bne_iff_ne.mpr c15
    have H' := ak_ H
    clear H
    go_wp2
    go_loopg [9, 10] kj4 (fun kq v9 v10 w' => ∃ (x9_2 : List (List Int)) (x10_2 : Int), v10 = .int .i64 x10_2 ∧ Aside0 (spec_paGroups.l0 kq l0 l1 a3 x9_2 x10_2 = some r) ∧ Aside0 (kq ≤ kj4) ∧ Aside0 (Kd.N (Kd.slice 3 (Kd.int .i64)) 29 w' w.heap.size (fun k_ => (w.heap.size ≤ k_)) v9 x9_2) ∧ Aside0 (Below w.heap.size w w'))
    case atStart => exact ⟨(x9_4), (a2), (ry_), H', ⟨Nat.le_refl _⟩, ⟨Kd.pN HO_9.out⟩, ⟨bb_ HB.out⟩⟩
    case round =>
     clear H'
     try clear c1
     try clear p2
     try clear c6
     try clear c6b0
     try clear c6b1
     try clear c8
     try clear c10
     try clear c13
     try clear c15
     try clear c15b0
     try clear c15b1
     try clear p2
     obtain ⟨x9_2, x10_2, rfl, HA, HK2, HO_9, HB⟩ := hrel
     cases gk with
     | zero => exact absurd HA.out (by simp [spec_paGroups.l0])
     | succ k2 =>
      have H := HA.out
      clear HA
      simp only [spec_paGroups.l0] at H
      by_cases c16 : x10_2 < (l0.length : Int)
      ·
       rw [if_pos c16] at H
       have c16b0 : decide (x10_2 < (l0.length : Int)) = true := decide_eq_true c16
       clear c16
       replace H := Option.bind_eq_some_iff.mp H
       obtain ⟨t171, A170, H⟩ := H
       replace H : (if 0 ≤ x10_2 then ((some (([rd l0 x10_2] : List Int) : List Int)).bind fun y175 => (if t171.length + y175.length < 17592186044416 then ((spec_paGroups.f k2 l0 (t171 ++ y175) (wrap64 (x10_2 + 1)) a3).bind fun t181 => (if x9_2.length + t181.length < 5864062014805 then (spec_paGroups.l0 k2 l0 l1 a3 (x9_2 ++ t181) (wrap64 (x10_2 + 1))) else (none))) else (none))) else (none)) = some r := H
       have A17 := ak_ A170
       clear A170
       by_cases c18 : 0 ≤ x10_2
       ·
        rw [if_pos c18] at H
        have c18b0 : decide (0 ≤ x10_2) = true := decide_eq_true c18
        clear c18
        obtain ⟨y175, hy175⟩ : ∃ y_ : List Int, y_ = (([rd l0 x10_2] : List Int)) := ⟨_, rfl⟩
        replace H : (if t171.length + y175.length < 17592186044416 then ((spec_paGroups.f k2 l0 (t171 ++ y175) (wrap64 (x10_2 + 1)) a3).bind fun t181 => (if x9_2.length + t181.length < 5864062014805 then (spec_paGroups.l0 k2 l0 l1 a3 (x9_2 ++ t181) (wrap64 (x10_2 + 1))) else (none))) else (none)) = some r := by first | (rw [hy175]; exact H) | exact H
        have Ny175 := ak_ hy175
        clear hy175
        by_cases c19 : t171.length + y175.length < 17592186044416
        ·
         rw [if_pos c19] at H
         have LMc19 := ak_ c19
         clear c19
         obtain ⟨y178, hy178⟩ : ∃ y_ : List Int, y_ = (t171 ++ y175) := ⟨_, rfl⟩
         replace H : ((spec_paGroups.f k2 l0 y178 (wrap64 (x10_2 + 1)) a3).bind fun t181 => (if x9_2.length + t181.length < 5864062014805 then (spec_paGroups.l0 k2 l0 l1 a3 (x9_2 ++ t181) (wrap64 (x10_2 + 1))) else (none))) = some r := by first | (rw [hy178]; exact H) | exact H
         have Ny178 := ak_ hy178
         clear hy178
         replace H := Option.bind_eq_some_iff.mp H
         obtain ⟨t181, A200, H⟩ := H
         replace H : (if x9_2.length + t181.length < 5864062014805 then (spec_paGroups.l0 k2 l0 l1 a3 (x9_2 ++ t181) (wrap64 (x10_2 + 1))) else (none)) = some r := H
         have A20 := ak_ A200
         clear A200
         by_cases c21 : x9_2.length + t181.length < 5864062014805
         ·
          rw [if_pos c21] at H
          have LMc21 := ak_ c21
          clear c21
          obtain ⟨y184, hy184⟩ : ∃ y_ : List (List Int), y_ = (x9_2 ++ t181) := ⟨_, rfl⟩
          replace H : (spec_paGroups.l0 k2 l0 l1 a3 y184 (wrap64 (x10_2 + 1))) = some r := by first | (rw [hy184]; exact H) | exact H
          have Ny184 := ak_ hy184
          clear hy184
          have H' := ak_ H
          clear H
          obtain ⟨Ao22, co22, eo22⟩ := Kd.N_slice HO_9.out
          subst eo22
          try go_wp2
          have n0_ := ak_ (Kd.N_drew HO_9.out)
          have n1_ := ak_ (b1_ HB.out)
          clear HO_9 HB
          have HO_9 := n0_; have HB := n1_
          clear n0_ n1_
          have p174 : 0 ≤ (x10_2 : Int) := odt_ (by assumption)
          have q174 : x10_2 < (l0.length : Int) := odt_ (by assumption)
          obtain ⟨ad174, e174, hx174_0⟩ := Kd.at_int HR0.out x10_2 p174 q174
          have hw174_0 := hx174_0
          cases e174
          try replace hx174_0 := (HB.out.cell (World.block_lt_of_cell? w _ hx174_0)).trans hx174_0
          replace p174 := eq_true p174
          replace q174 := eq_true q174
          refine start_ (n := 16) (S := fun w' => w'.cell? (ad174.add (x10_2).toNat) = some (.int .i64 (rd l0 x10_2))) (ds := []) (mb_ 16 0) (by kernel_rfl) rfl rfl (((HB.out.cell (World.block_lt_of_cell? w _ hw174_0)).trans hw174_0)) (fun hHeld => ?_); refine with_tabW spec_paGroups.tab9 spec_paGroups.bits9 (fun HT_ HW_ => ?_)
          generalize wr.drew = w23 at HO_9 HB hx174_0 hHeld ⊢
          refine pu_ 0 31 16 1 ?_
          refine pu_ 1 32 16 3 ?_
          refine pu_ 2 33 16 7 ?_
          refine pu_ 4 35 16 23 ?_
          refine pu_ 5 36 16 55 ?_
          refine pu_ 6 37 16 119 ?_
          refine pu_ 10 41 16 1143 ?_
          refine pu_ 11 42 16 3191 ?_
          refine pu_ 12 43 16 7287 ?_
          refine take_ (i := 7) (N := some 38) (v := ?_) (a' := ?_) (mb_ 16 7415) rfl rfl (take_ofW HT_.out HW_.out (by kernel_rfl)) (fun _ _ _ h => h) (Or.inl ⟨by rfl, ?_⟩) hHeld ?_ ?_
          rotate_left
          ·
           intro w' s0
           go_simp
           with_reducible rfl
          rotate_left
          ·
           simp only [Act.put, setIfInBounds_toArray, set_cons_zero, set_cons_succ, i64_w, i32_w]
           rfl
          refine join_ (σ := Value × Value) 4 (mb_ 16 7679) (fun s_ => [(34, s_.1), (39, s_.2)]) (fun s_ w' => (w'.cell? (ad174.add (x10_2).toNat) = some (.int .i64 (rd l0 x10_2))) ∧ (Kd.R (Kd.int .i64) 3 w' w.heap.size (fun k_ => (w.heap.size ≤ k_) ∧ some k_ ≠ (s_.2 : Value).ownBlock) s_.1 t171) ∧ (Kd.R (Kd.int .i64) 3 w' w.heap.size (fun k_ => (w.heap.size ≤ k_) ∧ some k_ ≠ (s_.1 : Value).ownBlock) s_.2 y175) ∧ (Kd.N (Kd.slice 3 (Kd.int .i64)) 29 w' w.heap.size (fun k_ => (w.heap.size ≤ k_) ∧ some k_ ≠ (s_.1 : Value).ownBlock ∧ some k_ ≠ (s_.2 : Value).ownBlock) (.slice Ao22 x9_2.length co22) x9_2) ∧ (Below w.heap.size w w')) ?_ ?_
          rotate_left
          ·
           intro hCont
           refine two_ (i := 3) (j := 8) (Ni := some 34) (Nj := some 39) (mb_ 16 7423) (mb_ 16 7671) rfl rfl rfl rfl (two_of HT_.out (by kernel_rfl)) (by decide) (by decide) (fun K hK => ?_) (fun K hK => ?_)
           ·
            skip
            refine goes_ Try.func130 (by kernel_rfl) rfl #[.slice A1 l1.length c1] (by rfl) rfl rfl (by first | rfl | (simp only [map_toArray, map_cons, map_nil]; try rfl)) ?_
            with_reducible refine (spec_l1Own.calls _ _ l1 t171 _ ?side1 ?side2 A17.out).mono ?_
            (case side1 => exact cs_ (Kd.C_below HR1.out HB.out))
            (case side2 => exact HC1.out)
            rintro e w24 ⟨v172, rfl, ho0, hb⟩
            refine ⟨_, rfl, ?_⟩
            have n0_ := ak_ (Kd.N_elder' (Kd.pN HO_9.out) (Kd.R_base ho0) hb)
            have n1_ := ak_ (Kd.R_lower (Kd.R_newM (M := fun k_ => (w.heap.size ≤ k_)) ho0 (bz_ (bb_ HB.out)) (fun k_ h_ => h_)) (bz_ (bb_ HB.out)))
            have n2_ := ak_ (bs_ (bb_ HB.out) hb)
            clear HO_9 HB
            have HO_9 := n0_; have HO173 := n1_; have HB := n2_
            clear n0_ n1_ n2_
            (try clear hb)
            (try clear hb2)
            (try clear hk)
            (try clear hi)
            (try clear ho0)
            refine hK.out _ _ (((HB.out.cell (World.block_lt_of_cell? w _ hw174_0)).trans hw174_0)) (fun hHeld => ?_)
            clear hK K
            refine nm_ ?_
            refine on_ 8 39 16 7679 (fun K hK => ?_)
            refine Kd.R_lit_step (Kd.int .i64) _ 3 ?hg (N := 39) ?hd (xs := ([rd l0 x10_2] : List Int)) (inner := [.int .i64 (rd l0 x10_2)]) (ok := fun _ => True) (okp := fun _ => True) ?hr ?hp (fun _ hk => hk) trivial (Below.refl _ _) (Nat.le_refl _) (by simp) ?_; (case hd => rfl); (case hg => rfl); (case hr => go_simp <;> rfl); (case hp => exact (Reps.one (show Kd.M (Kd.int .i64) _ _ _ (rd l0 x10_2) [.int .i64 (rd l0 x10_2)] from rfl) (Reps.none _ _)))
            intro v176 w25 ho26 hb hg_ hnew_
            clear hg_ hnew_
            (first | rw [← Ny175.out] at ho26 | (simp only [Int.reduceToNat] at ho26; rw [← Ny175.out] at ho26))
            have n0_ := ak_ (Kd.N_elder' (Kd.pN HO_9.out) (Kd.R_base ho26) hb)
            have n1_ := ak_ (Kd.R_elder' (Kd.pR HO173.out) (Kd.R_base ho26) hb)
            have n2_ := ak_ (Kd.R_lower (Kd.R_new' (Kd.R_newM (M := fun k_ => (w.heap.size ≤ k_)) ho26 (bz_ (bb_ HB.out)) (fun k_ h_ => h_)) (Kd.R_lt (Kd.pR HO173.out))) (bz_ (bb_ HB.out)))
            have n3_ := ak_ (bs_ (bb_ HB.out) hb)
            clear HO_9 HO173 HB
            have HO_9 := n0_; have HO173 := n1_; have HO177 := n2_; have HB := n3_
            clear n0_ n1_ n2_ n3_ hb ho26
            refine hK.out _ _ (((HB.out.cell (World.block_lt_of_cell? w _ hw174_0)).trans hw174_0)) (fun hHeld => ?_)
            clear hK K
            refine nm_ ?_
            exact norm_ (by simp only [putAll, Act.put, setIfInBounds_toArray, set_cons_zero, set_cons_succ]) (hCont (v172, v176) _ ⟨hHeld, (by (with_reducible repeat (first | apply Kd.R_alloc | apply Kd.R_drewN | apply Kd.R_drew)); exact Kd.R_mono HO173.out (fun _ hk => ⟨hk.1.1, hk.2⟩)), (by (with_reducible repeat (first | apply Kd.R_alloc | apply Kd.R_drewN | apply Kd.R_drew)); exact Kd.R_mono HO177.out (fun _ hk => ⟨hk.1.1, hk.2⟩)), (by (with_reducible repeat (first | apply Kd.N_alloc | apply Kd.N_drewN | apply Kd.N_drew)); exact Kd.N_mono HO_9.out (fun _ hk => ⟨hk.1.1, ⟨hk.1.2, hk.2⟩⟩)), (bb_ HB.out)⟩)
           ·
            skip
            refine Kd.R_lit_step (Kd.int .i64) _ 3 ?hg (N := 39) ?hd (xs := ([rd l0 x10_2] : List Int)) (inner := [.int .i64 (rd l0 x10_2)]) (ok := fun _ => True) (okp := fun _ => True) ?hr ?hp (fun _ hk => hk) trivial (Below.refl _ _) (Nat.le_refl _) (by simp) ?_; (case hd => rfl); (case hg => rfl); (case hr => go_simp <;> rfl); (case hp => exact (Reps.one (show Kd.M (Kd.int .i64) _ _ _ (rd l0 x10_2) [.int .i64 (rd l0 x10_2)] from rfl) (Reps.none _ _)))
            intro v176 w24 ho25 hb hg_ hnew_
            clear hg_ hnew_
            (first | rw [← Ny175.out] at ho25 | (simp only [Int.reduceToNat] at ho25; rw [← Ny175.out] at ho25))
            have n0_ := ak_ (Kd.N_elder' (Kd.pN HO_9.out) (Kd.R_base ho25) hb)
            have n1_ := ak_ (Kd.R_lower (Kd.R_newM (M := fun k_ => (w.heap.size ≤ k_)) ho25 (bz_ (bb_ HB.out)) (fun k_ h_ => h_)) (bz_ (bb_ HB.out)))
            have n2_ := ak_ (bs_ (bb_ HB.out) hb)
            clear HO_9 HB
            have HO_9 := n0_; have HO177 := n1_; have HB := n2_
            clear n0_ n1_ n2_ hb ho25
            refine hK.out _ _ (((HB.out.cell (World.block_lt_of_cell? w _ hw174_0)).trans hw174_0)) (fun hHeld => ?_)
            clear hK K
            refine nm_ ?_
            refine on_ 3 34 16 7679 (fun K hK => ?_)
            refine goes_ Try.func130 (by kernel_rfl) rfl #[.slice A1 l1.length c1] (by rfl) rfl rfl (by first | rfl | (simp only [map_toArray, map_cons, map_nil]; try rfl)) ?_
            with_reducible refine (spec_l1Own.calls _ _ l1 t171 _ ?side1 ?side2 A17.out).mono ?_
            (case side1 => exact cs_ (Kd.C_below HR1.out HB.out))
            (case side2 => exact HC1.out)
            rintro e w26 ⟨v172, rfl, ho0, hb⟩
            refine ⟨_, rfl, ?_⟩
            have n0_ := ak_ (Kd.N_elder' (Kd.pN HO_9.out) (Kd.R_base ho0) hb)
            have n1_ := ak_ (Kd.R_elder' (Kd.pR HO177.out) (Kd.R_base ho0) hb)
            have n2_ := ak_ (Kd.R_lower (Kd.R_new' (Kd.R_newM (M := fun k_ => (w.heap.size ≤ k_)) ho0 (bz_ (bb_ HB.out)) (fun k_ h_ => h_)) (Kd.R_lt (Kd.pR HO177.out))) (bz_ (bb_ HB.out)))
            have n3_ := ak_ (bs_ (bb_ HB.out) hb)
            clear HO_9 HO177 HB
            have HO_9 := n0_; have HO177 := n1_; have HO173 := n2_; have HB := n3_
            clear n0_ n1_ n2_ n3_
            (try clear hb)
            (try clear hb2)
            (try clear hk)
            (try clear hi)
            (try clear ho0)
            refine hK.out _ _ (((HB.out.cell (World.block_lt_of_cell? w _ hw174_0)).trans hw174_0)) (fun hHeld => ?_)
            clear hK K
            refine nm_ ?_
            exact norm_ (by simp only [putAll, Act.put, setIfInBounds_toArray, set_cons_zero, set_cons_succ]) (hCont (v172, v176) _ ⟨hHeld, (by (with_reducible repeat (first | apply Kd.R_alloc | apply Kd.R_drewN | apply Kd.R_drew)); exact Kd.R_mono HO173.out (fun _ hk => ⟨hk.1.1, hk.2⟩)), (by (with_reducible repeat (first | apply Kd.R_alloc | apply Kd.R_drewN | apply Kd.R_drew)); exact Kd.R_mono HO177.out (fun _ hk => ⟨hk.1.1, hk.2⟩)), (by (with_reducible repeat (first | apply Kd.N_alloc | apply Kd.N_drewN | apply Kd.N_drew)); exact Kd.N_mono HO_9.out (fun _ hk => ⟨hk.1.1, ⟨hk.2, hk.1.2⟩⟩)), (bb_ HB.out)⟩)
          rintro ⟨v172, v176⟩ w27 ⟨hS_, h0_, h1_, h2_, h3_⟩
          have n0_ : Aside0 (Kd.R (Kd.int .i64) 3 w27 w.heap.size (fun k_ => (w.heap.size ≤ k_) ∧ some k_ ≠ (v176 : Value).ownBlock) v172 t171) := ⟨h0_⟩
          have n1_ : Aside0 (Kd.R (Kd.int .i64) 3 w27 w.heap.size (fun k_ => (w.heap.size ≤ k_) ∧ some k_ ≠ (v172 : Value).ownBlock) v176 y175) := ⟨h1_⟩
          have n2_ : Aside0 (Kd.N (Kd.slice 3 (Kd.int .i64)) 29 w27 w.heap.size (fun k_ => (w.heap.size ≤ k_) ∧ some k_ ≠ (v172 : Value).ownBlock ∧ some k_ ≠ (v176 : Value).ownBlock) (.slice Ao22 x9_2.length co22) x9_2) := ⟨h2_⟩
          have n3_ : Aside0 (Below w.heap.size w w27) := ⟨h3_⟩
          clear HO_9 HB h0_ h1_ h2_ h3_
          have HO173 := n0_; have HO177 := n1_; have HO_9 := n2_; have HB := n3_
          clear n0_ n1_ n2_ n3_
          have hHeld : w27.cell? (ad174.add (x10_2).toNat) = some (.int .i64 (rd l0 x10_2)) := hS_
          obtain ⟨Ao29, co29, eo29⟩ := Kd.R_slice HO177.out
          (first | subst eo29 | (injection eo29 with f1_ f2_ f3_; have f4_ := f1_.symm; have f5_ := f3_.symm; clear f1_ f2_ f3_; subst f4_; subst f5_))
          refine norm_ (a' := ?_) ?_ ?_
          rotate_left
          ·
           simp only [putAll, Act.put, setIfInBounds_toArray, set_cons_zero, set_cons_succ]
           rfl
          refine on_ 9 40 16 8191 (fun K hK => ?_)
          refine Kd.R_append_rows_step (Kd.int .i64) (w0 := w) w.heap.size (by rfl) (.tmp 34) (.tmp 39) 29 3 (.int .i64 0) 8 rfl Try.underlying29 info3 rfl (by decide) (by omega) v172 t171 y175 _ _ _ (fun k_ => (w.heap.size ≤ k_) ∧ some k_ ≠ (.slice Ao29 y175.length co29 : Value).ownBlock) (fun _ => False) rfl rfl ?aO ?aR (fun _ _ h => h) (fun _ h => h.elim) ?aF ?aB ?aS ?aL ?_
          (case aR => repeat (first | exact (Kd.R_reads' HO177.out).2.2 | (with_reducible refine Kd.C_alloc ?_ _) | (with_reducible refine Kd.C_drewN ?_ _) | (with_reducible refine Kd.C_drew ?_)))
          (case aB => exact (bb_ HB.out))
          (case aF => exact (fun k_ hk => ⟨(Nat.le_trans (bz_ (bb_ HB.out)) hk), Kd.fresh' (Kd.R_lt (Kd.pR HO177.out)) k_ hk⟩))
          (case aO => exact (Kd.pR HO173.out))
          (case aS => exact (bz_ (bb_ HB.out)))
          (case aL => have := LMc19.out; omega)
          intro v179 w28 ho hb hg hat
          rw [← Ny178.out] at ho
          have n0_ := ak_ (Kd.N_afterv (ok := (fun k_ => (w.heap.size ≤ k_) ∧ some k_ ≠ (.slice Ao29 y175.length co29 : Value).ownBlock)) (by (with_reducible repeat (first | apply Kd.N_alloc | apply Kd.N_drewN | apply Kd.N_drew)); exact Kd.N_mono HO_9.out (fun _ hk => ⟨⟨hk.1, hk.2.2⟩, hk.2.1⟩)) hg hat)
          have n1_ := ak_ (Kd.R_after (ok := (fun k_ => (w.heap.size ≤ k_))) (Kd.pR HO177.out) hg hat)
          have n2_ := ak_ (hb)
          have n3_ := ak_ (ho)
          clear HO_9 HO177 HB HO173
          have HO_9 := n0_; have HO177 := n1_; have HB := n2_; have HO180 := n3_
          clear n0_ n1_ n2_ n3_ ho hb hg hat
          obtain ⟨Ao30, co30, eo30⟩ := Kd.R_slice HO180.out
          (first | subst eo30 | (injection eo30 with f1_ f2_ f3_; have f4_ := f1_.symm; have f5_ := f3_.symm; clear f1_ f2_ f3_; subst f4_; subst f5_))
          refine hK.out _ _ (((HB.out.cell (World.block_lt_of_cell? w _ hw174_0)).trans hw174_0)) (fun hHeld => ?_)
          clear hK K
          refine nm_ ?_
          refine on_ 13 44 16 16383 (fun K hK => ?_)
          refine goes_ Try.func109 (by kernel_rfl) rfl #[.slice (some ad174) l0.length c0, .slice Ao30 y178.length co30, .int .i64 (wrap64 (x10_2 + 1)), .int .i64 a3] (by rfl) rfl rfl (by first | rfl | (simp only [map_toArray, map_cons, map_nil]; try rfl)) ?_
          with_reducible refine (ih k2 (by have := HJ4.out; have := HK2.out; omega) _ _ l0 _ _ y178 (wrap64 (x10_2 + 1)) a3 t181 _ ?side1 ?side2 ?side3 ?side4 A20.out).mono ?_
          (case side1 => exact cs_ (Kd.C_below HR0.out HB.out))
          (case side2 => exact HC0.out)
          (case side3 => exact cs_ ((Kd.R_reads' HO180.out).2.2))
          (case side4 => exact (Kd.R_reads' HO180.out).2.1)
          rintro e w31 ⟨v182, rfl, ho0, hb⟩
          refine ⟨_, rfl, ?_⟩
          have n0_ := ak_ (Kd.N_elder' (Kd.pN HO_9.out) (Kd.N_base ho0) hb)
          have n1_ := ak_ (Kd.R_below (Kd.pR HO177.out) hb)
          have n2_ := ak_ (Kd.R_below (Kd.pR HO180.out) hb)
          have n3_ := ak_ (Kd.N_lower (Kd.N_mono (ok' := fun k_ => (w.heap.size ≤ k_) ∧ some k_ ≠ (.slice Ao22 x9_2.length co22 : Value).ownBlock ∧ some k_ ≠ (.slice Ao29 y175.length co29 : Value).ownBlock ∧ some k_ ≠ (.slice Ao30 y178.length co30 : Value).ownBlock) ho0 (fun k_ hk_ => ⟨(Nat.le_trans (bz_ (bb_ HB.out)) hk_), (Kd.fresh' (Kd.N_lt (Kd.pN HO_9.out)) k_ hk_), (Kd.fresh' (Kd.R_lt (Kd.pR HO177.out)) k_ hk_), (Kd.fresh' (Kd.R_lt (Kd.pR HO180.out)) k_ hk_)⟩)) (bz_ (bb_ HB.out)))
          have n4_ := ak_ (bs_ (bb_ HB.out) hb)
          clear HO_9 HO177 HO180 HB
          have HO_9 := n0_; have HO177 := n1_; have HO180 := n2_; have HO183 := n3_; have HB := n4_
          clear n0_ n1_ n2_ n3_ n4_
          (try clear hb)
          (try clear hb2)
          (try clear hk)
          (try clear hi)
          (try clear ho0)
          obtain ⟨Ao33, co33, eo33⟩ := Kd.N_slice HO183.out
          (first | subst eo33 | (injection eo33 with f1_ f2_ f3_; have f4_ := f1_.symm; have f5_ := f3_.symm; clear f1_ f2_ f3_; subst f4_; subst f5_))
          refine hK.out _ _ (((HB.out.cell (World.block_lt_of_cell? w _ hw174_0)).trans hw174_0)) (fun hHeld => ?_)
          clear hK K
          refine nm_ ?_
          refine on_ 14 45 16 32767 (fun K hK => ?_)
          refine Kd.N_append_rows_step (Kd.slice 3 (Kd.int .i64)) (w0 := w) w.heap.size (by rfl) (.tmp 31) (.tmp 44) 47 29 (.slice none 0 0) 24 rfl Try.underlying47 info29 rfl (by decide) (by omega) (.slice Ao22 x9_2.length co22) x9_2 t181 _ _ _ (fun k_ => (w.heap.size ≤ k_) ∧ some k_ ≠ (.slice Ao29 y175.length co29 : Value).ownBlock ∧ some k_ ≠ (.slice Ao30 y178.length co30 : Value).ownBlock) (fun k_ => ((fun k_ => (w.heap.size ≤ k_) ∧ some k_ ≠ (.slice Ao29 y175.length co29 : Value).ownBlock ∧ some k_ ≠ (.slice Ao30 y178.length co30 : Value).ownBlock)) k_ ∧ some k_ ≠ (.slice Ao22 x9_2.length co22 : Value).ownBlock) rfl rfl ?aO ?aR (fun _ hk => hk) ?aF ?aB ?aS ?aL ?_
          (case aR => exact (by skip; exact Kd.N_F (Kd.N_mono (ok' := (fun k_ => ((fun k_ => (w.heap.size ≤ k_) ∧ some k_ ≠ (.slice Ao29 y175.length co29 : Value).ownBlock ∧ some k_ ≠ (.slice Ao30 y178.length co30 : Value).ownBlock)) k_ ∧ some k_ ≠ (.slice Ao22 x9_2.length co22 : Value).ownBlock)) (HO183.out) (fun k_ hk => ⟨⟨hk.1, ⟨hk.2.2.1, hk.2.2.2⟩⟩, hk.2.1⟩))))
          (case aB => exact (bb_ HB.out))
          (case aF => exact (fun k_ hk => ⟨(Nat.le_trans (bz_ (bb_ HB.out)) hk), Kd.fresh' (Kd.R_lt (Kd.pR HO177.out)) k_ hk, Kd.fresh' (Kd.R_lt (Kd.pR HO180.out)) k_ hk⟩))
          (case aO => exact (by (with_reducible repeat (first | apply Kd.N_alloc | apply Kd.N_drewN | apply Kd.N_drew)); exact Kd.N_mono HO_9.out (fun _ hk => ⟨hk.1.1.1, ⟨hk.1.1.2, hk.1.2⟩⟩)))
          (case aS => exact (bz_ (bb_ HB.out)))
          (case aL => have := LMc21.out; omega)
          intro v185 w32 ho hb hg hat
          rw [← Ny184.out] at ho
          have n0_ := ak_ (Kd.R_over' (Kd.pR HO177.out) (Kd.N_typed (Kd.pN HO_9.out)) (by decide) hg)
          have n1_ := ak_ (Kd.R_over' (Kd.pR HO180.out) (Kd.N_typed (Kd.pN HO_9.out)) (by decide) hg)
          have n2_ := ak_ (Kd.N_afterv (ok := (fun k_ => (w.heap.size ≤ k_) ∧ some k_ ≠ (.slice Ao29 y175.length co29 : Value).ownBlock ∧ some k_ ≠ (.slice Ao30 y178.length co30 : Value).ownBlock)) (by (with_reducible repeat (first | apply Kd.N_alloc | apply Kd.N_drewN | apply Kd.N_drew)); exact Kd.N_mono HO183.out (fun _ hk => ⟨⟨hk.1, ⟨hk.2.2.1, hk.2.2.2⟩⟩, hk.2.1⟩)) hg hat)
          have n3_ := ak_ (hb)
          have n4_ := ak_ (ho)
          clear HO177 HO180 HO183 HB HO_9
          have HO177 := n0_; have HO180 := n1_; have HO183 := n2_; have HB := n3_; have HO186 := n4_
          clear n0_ n1_ n2_ n3_ n4_ ho hb hg hat
          refine hK.out _ _ (((HB.out.cell (World.block_lt_of_cell? w _ hw174_0)).trans hw174_0)) (fun hHeld => ?_)
          clear hK K
          refine nm_ ?_
          refine pu_ 15 9 16 65535 ?_
          refine done_ (done_of HT_.out (by kernel_rfl)) ?_
          try go_wp2
          go_roundg k2
          case measure => have := HJ4.out; have := HK2.out; omega
          case rel => exact ⟨(y184), (wrap64 (x10_2 + 1)), (ry_), H', ⟨by have := HJ4.out; have := HK2.out; omega⟩, ⟨by (with_reducible repeat (first | apply Kd.N_alloc | apply Kd.N_drewN | apply Kd.N_drew)); exact Kd.N_mono HO186.out (fun _ hk => hk.1)⟩, ⟨bb_ HB.out⟩⟩
         ·
          rw [if_neg c21] at H
          exact absurd H (by simp)
        ·
         rw [if_neg c19] at H
         exact absurd H (by simp)
       ·
        rw [if_neg c18] at H
        exact absurd H (by simp)
      ·
       rw [if_neg c16] at H
       have c16b0 : decide (x10_2 < (l0.length : Int)) = false := decide_eq_false c16
       clear c16
       obtain rfl := Option.some.inj H
       go_wp2
       go_ret
       exact ⟨_, rx_, by (with_reducible repeat (first | apply Kd.N_alloc | apply Kd.N_drewN | apply Kd.N_drew)); exact HO_9.out, bb_ HB.out⟩
def spec_keRide.l0 : Nat → List Int → Int → Int → List Bool → Bool → List Bool → Bool → Option (List Bool × Bool)
 | 0, _, _, _, _, _, _, _ => none
 | k + 1, x16, x17, x18, x188000, x188001, x196000, x196001 => if x18 < x17 then (if 0 ≤ x18 then (if x18 < (x16.length : Int) then (if 0 ≤ (rd x16 x18) then (if (rd x16 x18) < (x188000.length : Int) then (if (rd x16 x18) < (x196000.length : Int) then (spec_keRide.l0 k x16 x17 (wrap64 (x18 + 1)) x188000 x188001 (x196000.set ((rd x16 x18) : Int).toNat (!(rdOf false x188000 (rd x16 x18)))) x196001) else (none)) else (none)) else (none)) else (none)) else (none)) else (some (x196000, x196001))
def spec_keRide.f (k : Nat) (l0_0 : List Bool) (a0_1 : Bool) (l1 : List Int) : Option (List Bool × Bool) := (some (([] : List Bool) : List Bool)).bind fun y189 => (if y189.length + l0_0.length < 140737488355328 then (spec_keRide.l0 k l1 (l1.length : Int) 0 l0_0 a0_1 (y189 ++ l0_0) (!a0_1)) else (none))
theorem spec_keRide.mono_l : ∀ k, (∀ y0 y1 y2 y3 y4 y5 y6, LeO (spec_keRide.l0 k y0 y1 y2 y3 y4 y5 y6) (spec_keRide.l0 (k + 1) y0 y1 y2 y3 y4 y5 y6))
 | 0 => fun _ _ _ _ _ _ _ r h => by simp [spec_keRide.l0] at h
 | k + 1 => by
  have ih0 := spec_keRide.mono_l k
  ·intro y0 y1 y2 y3 y4 y5 y6
   unfold spec_keRide.l0
   repeat' first
   | (with_reducible first | exact ih0 _ _ _ _ _ _ _ | exact LeO.refl _ | exact LeO.none _ | refine LeO.ite ?_ ?_ | refine LeO.bind ?_ (fun _ => ?_))
theorem spec_keRide.mono : ∀ a0 a1 a2 k, LeO (spec_keRide.f k a0 a1 a2) (spec_keRide.f (k + 1) a0 a1 a2) := by
 intro a0 a1 a2 k
 have ih0 := spec_keRide.mono_l k
 unfold spec_keRide.f
 repeat' first
  | (with_reducible first | exact ih0 _ _ _ _ _ _ _ | exact LeO.refl _ | exact LeO.none _ | refine LeO.ite ?_ ?_ | refine LeO.bind ?_ (fun _ => ?_))
def spec_keRide.T1 : Bool × List (List Nat × List Nat) := (true, [([], []), ([], []), ([1], [1]), ([0, 2], [0, 2]), ([], []), ([4], [4]), ([5], [5]), ([3, 6], [3, 6]), ([], []), ([8, 7, 3, 0, 1, 2, 3, 4, 5, 6, 7, 8], [7, 8])])
def spec_keRide.B1 : List Nat := [0, 0, 2, 7, 0, 16, 48, 127, 0, 511]
theorem spec_keRide.tab1 : rtab .any (opsOf Try.f75 1) = spec_keRide.T1 := by kernel_rfl
theorem spec_keRide.bits1 : waitsOk spec_keRide.T1.2 spec_keRide.B1 = true := by kernel_rfl
def spec_keRide.T5 : Bool × List (List Nat × List Nat) := (true, [([], []), ([0], [0]), ([], []), ([], []), ([3], [3]), ([], []), ([4, 5], [4, 5]), ([6], [6]), ([7], [7]), ([1, 2, 0, 1, 2, 3, 4, 5, 6, 7, 8], [1, 2]), ([9, 8, 0, 1, 2, 3, 4, 5, 6, 7, 8], [8, 9])])
def spec_keRide.B5 : List Nat := [0, 1, 0, 0, 8, 0, 56, 120, 248, 511, 1023]
theorem spec_keRide.tab5 : rtab .any (opsOf Try.f75 5) = spec_keRide.T5 := by kernel_rfl
theorem spec_keRide.bits5 : waitsOk spec_keRide.T5.2 spec_keRide.B5 = true := by kernel_rfl
theorem spec_keRide.calls (k : Nat) (A0_0 : Option Addr) (c0_0 : Nat) (l0_0 : List Bool) (a0_1 : Bool) (A1 : Option Addr) (c1 : Nat) (l1 : List Int) (r1 : List Bool) (r2 : Bool) (w : World) (hr0_0 : Kd.C Kd.bool w A0_0 l0_0.length l0_0) (hc0_0 : l0_0.length ≤ c0_0) (hr1 : Kd.C (Kd.int .i64) w A1 l1.length l1) (hc1 : l1.length ≤ c1) (h : spec_keRide.f k l0_0 a0_1 l1 = some (r1, r2)) :
  Calls Try.prog 75 #[.agg #[.slice A0_0 l0_0.length c0_0, .bool a0_1], .slice A1 l1.length c1] w fun e w' => ∃ v0_ : Value, e = .returned (.agg #[v0_, .bool r2]) ∧ Kd.R Kd.bool 4 w' w.heap.size (fun _ => True) v0_ r1 ∧ Below w.heap.size w w' := by
 have hu90 := Try.underlying90
 have HR0_0 := ak_ hr0_0
 have HC0_0 := ak_ hc0_0
 clear hr0_0 hc0_0
 have HR1 := ak_ hr1
 have HC1 := ak_ hc1
 clear hr1 hc1
 have HB := ak_ (Below.refl w.heap.size w)
 have H : ((some (([] : List Bool) : List Bool)).bind fun y189 => (if y189.length + l0_0.length < 140737488355328 then (spec_keRide.l0 k l1 (l1.length : Int) 0 l0_0 a0_1 (y189 ++ l0_0) (!a0_1)) else (none))) = some (r1, r2) := h
 clear h
 obtain ⟨y189, hy189⟩ : ∃ y_ : List Bool, y_ = (([] : List Bool)) := ⟨_, rfl⟩
 replace H : (if y189.length + l0_0.length < 140737488355328 then (spec_keRide.l0 k l1 (l1.length : Int) 0 l0_0 a0_1 (y189 ++ l0_0) (!a0_1)) else (none)) = some (r1, r2) := by first | (rw [hy189]; exact H) | exact H
 have Ny189 := ak_ hy189
 clear hy189
 by_cases c3 : y189.length + l0_0.length < 140737488355328
 ·
  rw [if_pos c3] at H
  have LMc3 := ak_ c3
  clear c3
  obtain ⟨y192, hy192⟩ : ∃ y_ : List Bool, y_ = (y189 ++ l0_0) := ⟨_, rfl⟩
  replace H : (spec_keRide.l0 k l1 (l1.length : Int) 0 l0_0 a0_1 y192 (!a0_1)) = some (r1, r2) := by first | (rw [hy192]; exact H) | exact H
  have Ny192 := ak_ hy192
  clear hy192
  have H' := ak_ H
  clear H
  go_enter Try.func75, Try.ntmps75
  try go_wp2_with (first | ((with_reducible refine gate_dst (N := 2) rfl ?_); refine bx_ 2 #[.slice A0_0 l0_0.length c0_0, .bool a0_1] 90 ?_; intro gb187 hg w4 hbox hb; have n0_ := ak_ (bs_ (bb_ HB.out) hb); have n1_ := ak_ (hbox); have n2_ := ak_ ((by rw [hg]; exact (bz_ (bb_ HB.out)) : w.heap.size ≤ gb187)); have n3_ := n2_; clear HB; have HB := n0_; have BK187 := n1_; have GW187 := n2_; have GE187 := n3_; clear n0_ n1_ n2_ n3_; clear hb hbox hg) | ((with_reducible refine gate_dst (N := 4) rfl ?_); refine bx_ 4 #[.slice none 0 0, .bool false] 90 ?_; intro gb188 hg w5 hbox hb; have n0_ := ak_ (blk_below (pk BK187.out) hb); have n1_ := ak_ (bs_ bl_ hb); have n2_ := ak_ (hbox); have n3_ := ak_ ((by rw [hg]; exact (bz_ bl_) : w.heap.size ≤ gb188)); have n4_ := n3_; have n5_ := ak_ ((by rw [hg]; exact Nat.ne_of_lt (blk_lt (pk BK187.out)) : gb187 ≠ gb188)); have n6_ := ak_ n5_.out.symm; clear BK187; clear HB; have BK187 := n0_; have HB := n1_; have BK188 := n2_; have GW188 := n3_; have GE188 := n4_; have NB187_188 := n5_; have NB188_187 := n6_; clear n0_ n1_ n2_ n3_ n4_ n5_ n6_; clear hb hbox hg))
  have n0_ := ak_ (k1_ BK187.out)
  have n1_ := ak_ (k1_ BK188.out)
  have n2_ := ak_ (b1_ HB.out)
  clear BK187 BK188 HB
  have BK187 := n0_; have BK188 := n1_; have HB := n2_
  clear n0_ n1_ n2_
  refine start_ (n := 10) (S := fun w' => w'.cell? ⟨gb187, 0, none⟩ = some (.slice A0_0 l0_0.length c0_0) ∧ w'.cell? ⟨gb187, 1, none⟩ = some (.bool a0_1)) (ds := []) (mb_ 10 0) (by kernel_rfl) rfl rfl ⟨(blk_cell BK187.out 0).trans rfl, (blk_cell BK187.out 1).trans rfl⟩ (fun hHeld => ?_); refine with_tabW spec_keRide.tab1 spec_keRide.bits1 (fun HT_ HW_ => ?_)
  generalize w5.drew = w6 at BK187 BK188 HB hHeld ⊢
  refine pu_ 1 9 10 2 ?_
  refine pu_ 4 12 10 18 ?_
  refine tk_ 2 10 10 22 ?_ (hy := by rintro w' ⟨s0, s1⟩; go_simp; with_reducible rfl)
  refine tk_ 5 13 10 54 ?_ (hy := by rintro w' ⟨s0, s1⟩; go_simp; with_reducible rfl)
  refine pu_ 6 14 10 118 ?_
  refine join_ (σ := Value × Value × Nat) 1 (mb_ 10 511) (fun s_ => [(8, s_.1), (11, s_.2.1), (5, .pointer (some ⟨s_.2.2, 0, none⟩)), (15, .agg #[s_.2.1, .bool (!a0_1)])]) (fun s_ w' => (w'.cell? ⟨gb187, 0, none⟩ = some (.slice A0_0 l0_0.length c0_0) ∧ w'.cell? ⟨gb187, 1, none⟩ = some (.bool a0_1)) ∧ (Kd.R Kd.bool 4 w' w.heap.size (fun _ => True) s_.2.1 y192) ∧ (w'.heap[gb187]? = some (.cells #[.slice A0_0 l0_0.length c0_0, .bool a0_1] 90 (0, 0))) ∧ (w'.heap[gb188]? = some (.cells #[.slice none 0 0, .bool false] 90 (0, 0))) ∧ (w'.heap[s_.2.2]? = some (.cells #[.slice none 0 0, .bool false] 90 (0, 0))) ∧ (w.heap.size ≤ s_.2.2) ∧ (w.heap.size ≤ s_.2.2) ∧ (gb187 ≠ s_.2.2) ∧ (s_.2.2 ≠ gb187) ∧ (gb188 ≠ s_.2.2) ∧ (s_.2.2 ≠ gb188) ∧ (Below w.heap.size w w')) ?_ ?_
  rotate_left
  ·
   intro hCont
   refine two_ (i := 0) (j := 8) (Ni := some 8) (Nj := some 5) (mb_ 10 119) (mb_ 10 374) rfl rfl rfl rfl (two_of HT_.out (by kernel_rfl)) (by decide) (by decide) (fun K hK => ?_) (fun K hK => ?_)
   ·
    skip
    refine Kd.R_lit_step Kd.bool _ 4 ?hg (N := 8) ?hd (xs := ([] : List Bool)) (inner := []) (ok := fun _ => True) (okp := fun _ => True) ?hr ?hp (fun _ hk => hk) trivial (Below.refl _ _) (Nat.le_refl _) (by simp) ?_; (case hd => rfl); (case hg => rfl); (case hr => go_simp <;> rfl); (case hp => exact (Reps.none _ _))
    intro v190 w7 ho8 hb hg_ hnew_
    clear hg_ hnew_
    (first | rw [← Ny189.out] at ho8 | (simp only [Int.reduceToNat] at ho8; rw [← Ny189.out] at ho8))
    have n0_ := ak_ (Kd.R_lower ho8 (bz_ bl_))
    have n1_ := ak_ (blk_below (pk BK187.out) hb)
    have n2_ := ak_ (blk_below (pk BK188.out) hb)
    have n3_ := ak_ (bs_ bl_ hb)
    clear BK187 BK188 HB
    have HO191 := n0_; have BK187 := n1_; have BK188 := n2_; have HB := n3_
    clear n0_ n1_ n2_ n3_ hb ho8
    refine hK.out _ _ ⟨(blk_cell BK187.out 0).trans rfl, (blk_cell BK187.out 1).trans rfl⟩ (fun hHeld => ?_)
    clear hK K
    refine nm_ ?_
    refine two_ (i := 3) (j := 8) (Ni := some 11) (Nj := some 5) (mb_ 10 127) (mb_ 10 375) rfl rfl rfl rfl (two_of HT_.out (by kernel_rfl)) (by decide) (by decide) (fun K hK => ?_) (fun K hK => ?_)
    ·
     skip
     refine Kd.R_append_rows_step Kd.bool (w0 := w) w.heap.size (by rfl) (.tmp 8) (.tmp 10) 38 4 (.bool false) 1 rfl Try.underlying38 info4 rfl (by decide) (by omega) v190 y189 l0_0 _ _ _ (fun _ => True) (fun _ => False) rfl rfl ?aO ?aR (fun _ _ h => h) (fun _ h => h.elim) ?aF ?aB ?aS ?aL ?_
     (case aR => repeat (first | exact (Kd.C_below HR0_0.out HB.out) | (with_reducible refine Kd.C_alloc ?_ _) | (with_reducible refine Kd.C_drewN ?_ _) | (with_reducible refine Kd.C_drew ?_)))
     (case aB => exact bl_)
     (case aF => exact (fun _ _ => trivial))
     (case aO => exact (Kd.pR HO191.out))
     (case aS => exact (bz_ bl_))
     (case aL => have := LMc3.out; omega)
     intro v193 w9 ho hb hg hat
     rw [← Ny192.out] at ho
     have n0_ := ak_ (blk_grown (pk BK187.out) hg (Kd.R_ne HO191.out BK187.out (by decide)))
     have n1_ := ak_ (blk_grown (pk BK188.out) hg (Kd.R_ne HO191.out BK188.out (by decide)))
     have n2_ := ak_ (hb)
     have n3_ := ak_ (ho)
     clear BK187 BK188 HB HO191
     have BK187 := n0_; have BK188 := n1_; have HB := n2_; have HO194 := n3_
     clear n0_ n1_ n2_ n3_ ho hb hg hat
     obtain ⟨Ao10, co10, eo10⟩ := Kd.R_slice HO194.out
     (first | subst eo10 | (injection eo10 with f1_ f2_ f3_; have f4_ := f1_.symm; have f5_ := f3_.symm; clear f1_ f2_ f3_; subst f4_; subst f5_))
     refine hK.out _ _ ⟨(blk_cell BK187.out 0).trans rfl, (blk_cell BK187.out 1).trans rfl⟩ (fun hHeld => ?_)
     clear hK K
     refine nm_ ?_
     refine pu_ 7 15 10 255 ?_
     refine on_ 8 5 10 511 (fun K hK => ?_)
     refine box_step ?hg (N := 5) ?hd (cs := #[.slice none 0 0, .bool false]) (t := 90) ?hr ?_; (case hd => rfl); (case hg => rfl); (case hr => go_simp <;> rfl)
     intro gb195 hg w11 hbox hb
     have n0_ := ak_ (Kd.R_below (Kd.pR HO194.out) hb)
     have n1_ := ak_ (blk_below (pk BK187.out) hb)
     have n2_ := ak_ (blk_below (pk BK188.out) hb)
     have n3_ := ak_ (bs_ bl_ hb)
     have n4_ := ak_ (hbox)
     have n5_ := ak_ ((by rw [hg]; exact (bz_ bl_) : w.heap.size ≤ gb195))
     have n6_ := n5_
     have n7_ := ak_ ((by rw [hg]; exact Nat.ne_of_lt (blk_lt (pk BK187.out)) : gb187 ≠ gb195))
     have n8_ := ak_ n7_.out.symm
     have n9_ := ak_ ((by rw [hg]; exact Nat.ne_of_lt (blk_lt (pk BK188.out)) : gb188 ≠ gb195))
     have n10_ := ak_ n9_.out.symm
     clear HO194 BK187 BK188 HB
     have HO194 := n0_; have BK187 := n1_; have BK188 := n2_; have HB := n3_; have BK195 := n4_; have GW195 := n5_; have GE195 := n6_; have NB187_195 := n7_; have NB195_187 := n8_; have NB188_195 := n9_; have NB195_188 := n10_
     clear n0_ n1_ n2_ n3_ n4_ n5_ n6_ n7_ n8_ n9_ n10_ hb hbox hg
     refine hK.out _ _ ⟨(blk_cell BK187.out 0).trans rfl, (blk_cell BK187.out 1).trans rfl⟩ (fun hHeld => ?_)
     clear hK K
     refine nm_ ?_
     exact norm_ (by simp only [putAll, Act.put, setIfInBounds_toArray, set_cons_zero, set_cons_succ]) (hCont (v190, .slice Ao10 y192.length co10, gb195) _ ⟨hHeld, (Kd.pR HO194.out), (pk BK187.out), (pk BK188.out), (pk BK195.out), GW195.out, GE195.out, NB187_195.out, NB195_187.out, NB188_195.out, NB195_188.out, bl_⟩)
    ·
     skip
     refine box_step ?hg (N := 5) ?hd (cs := #[.slice none 0 0, .bool false]) (t := 90) ?hr ?_; (case hd => rfl); (case hg => rfl); (case hr => go_simp <;> rfl)
     intro gb195 hg w9 hbox hb
     have n0_ := ak_ (Kd.R_below (Kd.pR HO191.out) hb)
     have n1_ := ak_ (blk_below (pk BK187.out) hb)
     have n2_ := ak_ (blk_below (pk BK188.out) hb)
     have n3_ := ak_ (bs_ bl_ hb)
     have n4_ := ak_ (hbox)
     have n5_ := ak_ ((by rw [hg]; exact (bz_ bl_) : w.heap.size ≤ gb195))
     have n6_ := n5_
     have n7_ := ak_ ((by rw [hg]; exact Nat.ne_of_lt (blk_lt (pk BK187.out)) : gb187 ≠ gb195))
     have n8_ := ak_ n7_.out.symm
     have n9_ := ak_ ((by rw [hg]; exact Nat.ne_of_lt (blk_lt (pk BK188.out)) : gb188 ≠ gb195))
     have n10_ := ak_ n9_.out.symm
     clear HO191 BK187 BK188 HB
     have HO191 := n0_; have BK187 := n1_; have BK188 := n2_; have HB := n3_; have BK195 := n4_; have GW195 := n5_; have GE195 := n6_; have NB187_195 := n7_; have NB195_187 := n8_; have NB188_195 := n9_; have NB195_188 := n10_
     clear n0_ n1_ n2_ n3_ n4_ n5_ n6_ n7_ n8_ n9_ n10_ hb hbox hg
     refine hK.out _ _ ⟨(blk_cell BK187.out 0).trans rfl, (blk_cell BK187.out 1).trans rfl⟩ (fun hHeld => ?_)
     clear hK K
     refine nm_ ?_
     refine on_ 3 11 10 383 (fun K hK => ?_)
     refine Kd.R_append_rows_step Kd.bool (w0 := w) w.heap.size (by rfl) (.tmp 8) (.tmp 10) 38 4 (.bool false) 1 rfl Try.underlying38 info4 rfl (by decide) (by omega) v190 y189 l0_0 _ _ _ (fun _ => True) (fun _ => False) rfl rfl ?aO ?aR (fun _ _ h => h) (fun _ h => h.elim) ?aF ?aB ?aS ?aL ?_
     (case aR => repeat (first | exact (Kd.C_below HR0_0.out HB.out) | (with_reducible refine Kd.C_alloc ?_ _) | (with_reducible refine Kd.C_drewN ?_ _) | (with_reducible refine Kd.C_drew ?_)))
     (case aB => exact bl_)
     (case aF => exact (fun _ _ => trivial))
     (case aO => exact (Kd.pR HO191.out))
     (case aS => exact (bz_ bl_))
     (case aL => have := LMc3.out; omega)
     intro v193 w10 ho hb hg hat
     rw [← Ny192.out] at ho
     have n0_ := ak_ (blk_grown (pk BK187.out) hg (Kd.R_ne HO191.out BK187.out (by decide)))
     have n1_ := ak_ (blk_grown (pk BK188.out) hg (Kd.R_ne HO191.out BK188.out (by decide)))
     have n2_ := ak_ (blk_grown (pk BK195.out) hg (Kd.R_ne HO191.out BK195.out (by decide)))
     have n3_ := ak_ (hb)
     have n4_ := ak_ (ho)
     clear BK187 BK188 BK195 HB HO191
     have BK187 := n0_; have BK188 := n1_; have BK195 := n2_; have HB := n3_; have HO194 := n4_
     clear n0_ n1_ n2_ n3_ n4_ ho hb hg hat
     obtain ⟨Ao11, co11, eo11⟩ := Kd.R_slice HO194.out
     (first | subst eo11 | (injection eo11 with f1_ f2_ f3_; have f4_ := f1_.symm; have f5_ := f3_.symm; clear f1_ f2_ f3_; subst f4_; subst f5_))
     refine hK.out _ _ ⟨(blk_cell BK187.out 0).trans rfl, (blk_cell BK187.out 1).trans rfl⟩ (fun hHeld => ?_)
     clear hK K
     refine nm_ ?_
     refine pu_ 7 15 10 511 ?_
     exact norm_ (by simp only [putAll, Act.put, setIfInBounds_toArray, set_cons_zero, set_cons_succ]) (hCont (v190, .slice Ao11 y192.length co11, gb195) _ ⟨hHeld, (Kd.pR HO194.out), (pk BK187.out), (pk BK188.out), (pk BK195.out), GW195.out, GE195.out, NB187_195.out, NB195_187.out, NB188_195.out, NB195_188.out, bl_⟩)
   ·
    skip
    refine box_step ?hg (N := 5) ?hd (cs := #[.slice none 0 0, .bool false]) (t := 90) ?hr ?_; (case hd => rfl); (case hg => rfl); (case hr => go_simp <;> rfl)
    intro gb195 hg w7 hbox hb
    have n0_ := ak_ (blk_below (pk BK187.out) hb)
    have n1_ := ak_ (blk_below (pk BK188.out) hb)
    have n2_ := ak_ (bs_ bl_ hb)
    have n3_ := ak_ (hbox)
    have n4_ := ak_ ((by rw [hg]; exact (bz_ bl_) : w.heap.size ≤ gb195))
    have n5_ := n4_
    have n6_ := ak_ ((by rw [hg]; exact Nat.ne_of_lt (blk_lt (pk BK187.out)) : gb187 ≠ gb195))
    have n7_ := ak_ n6_.out.symm
    have n8_ := ak_ ((by rw [hg]; exact Nat.ne_of_lt (blk_lt (pk BK188.out)) : gb188 ≠ gb195))
    have n9_ := ak_ n8_.out.symm
    clear BK187 BK188 HB
    have BK187 := n0_; have BK188 := n1_; have HB := n2_; have BK195 := n3_; have GW195 := n4_; have GE195 := n5_; have NB187_195 := n6_; have NB195_187 := n7_; have NB188_195 := n8_; have NB195_188 := n9_
    clear n0_ n1_ n2_ n3_ n4_ n5_ n6_ n7_ n8_ n9_ hb hbox hg
    refine hK.out _ _ ⟨(blk_cell BK187.out 0).trans rfl, (blk_cell BK187.out 1).trans rfl⟩ (fun hHeld => ?_)
    clear hK K
    refine nm_ ?_
    refine on_ 0 8 10 375 (fun K hK => ?_)
    refine Kd.R_lit_step Kd.bool _ 4 ?hg (N := 8) ?hd (xs := ([] : List Bool)) (inner := []) (ok := fun _ => True) (okp := fun _ => True) ?hr ?hp (fun _ hk => hk) trivial (Below.refl _ _) (Nat.le_refl _) (by simp) ?_; (case hd => rfl); (case hg => rfl); (case hr => go_simp <;> rfl); (case hp => exact (Reps.none _ _))
    intro v190 w8 ho9 hb hg_ hnew_
    clear hg_ hnew_
    (first | rw [← Ny189.out] at ho9 | (simp only [Int.reduceToNat] at ho9; rw [← Ny189.out] at ho9))
    have n0_ := ak_ (Kd.R_lower ho9 (bz_ bl_))
    have n1_ := ak_ (blk_below (pk BK187.out) hb)
    have n2_ := ak_ (blk_below (pk BK188.out) hb)
    have n3_ := ak_ (blk_below (pk BK195.out) hb)
    have n4_ := ak_ (bs_ bl_ hb)
    clear BK187 BK188 BK195 HB
    have HO191 := n0_; have BK187 := n1_; have BK188 := n2_; have BK195 := n3_; have HB := n4_
    clear n0_ n1_ n2_ n3_ n4_ hb ho9
    refine hK.out _ _ ⟨(blk_cell BK187.out 0).trans rfl, (blk_cell BK187.out 1).trans rfl⟩ (fun hHeld => ?_)
    clear hK K
    refine nm_ ?_
    refine on_ 3 11 10 383 (fun K hK => ?_)
    refine Kd.R_append_rows_step Kd.bool (w0 := w) w.heap.size (by rfl) (.tmp 8) (.tmp 10) 38 4 (.bool false) 1 rfl Try.underlying38 info4 rfl (by decide) (by omega) v190 y189 l0_0 _ _ _ (fun _ => True) (fun _ => False) rfl rfl ?aO ?aR (fun _ _ h => h) (fun _ h => h.elim) ?aF ?aB ?aS ?aL ?_
    (case aR => repeat (first | exact (Kd.C_below HR0_0.out HB.out) | (with_reducible refine Kd.C_alloc ?_ _) | (with_reducible refine Kd.C_drewN ?_ _) | (with_reducible refine Kd.C_drew ?_)))
    (case aB => exact bl_)
    (case aF => exact (fun _ _ => trivial))
    (case aO => exact (Kd.pR HO191.out))
    (case aS => exact (bz_ bl_))
    (case aL => have := LMc3.out; omega)
    intro v193 w10 ho hb hg hat
    rw [← Ny192.out] at ho
    have n0_ := ak_ (blk_grown (pk BK187.out) hg (Kd.R_ne HO191.out BK187.out (by decide)))
    have n1_ := ak_ (blk_grown (pk BK188.out) hg (Kd.R_ne HO191.out BK188.out (by decide)))
    have n2_ := ak_ (blk_grown (pk BK195.out) hg (Kd.R_ne HO191.out BK195.out (by decide)))
    have n3_ := ak_ (hb)
    have n4_ := ak_ (ho)
    clear BK187 BK188 BK195 HB HO191
    have BK187 := n0_; have BK188 := n1_; have BK195 := n2_; have HB := n3_; have HO194 := n4_
    clear n0_ n1_ n2_ n3_ n4_ ho hb hg hat
    obtain ⟨Ao11, co11, eo11⟩ := Kd.R_slice HO194.out
    (first | subst eo11 | (injection eo11 with f1_ f2_ f3_; have f4_ := f1_.symm; have f5_ := f3_.symm; clear f1_ f2_ f3_; subst f4_; subst f5_))
    refine hK.out _ _ ⟨(blk_cell BK187.out 0).trans rfl, (blk_cell BK187.out 1).trans rfl⟩ (fun hHeld => ?_)
    clear hK K
    refine nm_ ?_
    refine pu_ 7 15 10 511 ?_
    exact norm_ (by simp only [putAll, Act.put, setIfInBounds_toArray, set_cons_zero, set_cons_succ]) (hCont (v190, .slice Ao11 y192.length co11, gb195) _ ⟨hHeld, (Kd.pR HO194.out), (pk BK187.out), (pk BK188.out), (pk BK195.out), GW195.out, GE195.out, NB187_195.out, NB195_187.out, NB188_195.out, NB195_188.out, bl_⟩)
  rintro ⟨v190, v193, gb195⟩ w12 ⟨hS_, h0_, h1_, h2_, h3_, h4_, h5_, h6_, h7_, h8_, h9_, h10_⟩
  have n0_ : Aside0 (Kd.R Kd.bool 4 w12 w.heap.size (fun _ => True) v193 y192) := ⟨h0_⟩
  have n1_ : Aside0 (w12.heap[gb187]? = some (.cells #[.slice A0_0 l0_0.length c0_0, .bool a0_1] 90 (0, 0))) := ⟨h1_⟩
  have n2_ : Aside0 (w12.heap[gb188]? = some (.cells #[.slice none 0 0, .bool false] 90 (0, 0))) := ⟨h2_⟩
  have n3_ : Aside0 (w12.heap[gb195]? = some (.cells #[.slice none 0 0, .bool false] 90 (0, 0))) := ⟨h3_⟩
  have n4_ : Aside0 (w.heap.size ≤ gb195) := ⟨h4_⟩
  have n5_ : Aside0 (w.heap.size ≤ gb195) := ⟨h5_⟩
  have n6_ : Aside0 (gb187 ≠ gb195) := ⟨h6_⟩
  have n7_ : Aside0 (gb195 ≠ gb187) := ⟨h7_⟩
  have n8_ : Aside0 (gb188 ≠ gb195) := ⟨h8_⟩
  have n9_ : Aside0 (gb195 ≠ gb188) := ⟨h9_⟩
  have n10_ : Aside0 (Below w.heap.size w w12) := ⟨h10_⟩
  clear BK187 BK188 HB h0_ h1_ h2_ h3_ h4_ h5_ h6_ h7_ h8_ h9_ h10_
  have HO194 := n0_; have BK187 := n1_; have BK188 := n2_; have BK195 := n3_; have GW195 := n4_; have GE195 := n5_; have NB187_195 := n6_; have NB195_187 := n7_; have NB188_195 := n8_; have NB195_188 := n9_; have HB := n10_
  clear n0_ n1_ n2_ n3_ n4_ n5_ n6_ n7_ n8_ n9_ n10_
  have hHeld : w12.cell? ⟨gb187, 0, none⟩ = some (.slice A0_0 l0_0.length c0_0) ∧ w12.cell? ⟨gb187, 1, none⟩ = some (.bool a0_1) := hS_
  obtain ⟨Ao13, co13, eo13⟩ := Kd.R_slice HO194.out
  (first | subst eo13 | (injection eo13 with f1_ f2_ f3_; have f4_ := f1_.symm; have f5_ := f3_.symm; clear f1_ f2_ f3_; subst f4_; subst f5_))
  refine norm_ (a' := ?_) ?_ ?_
  rotate_left
  ·
   simp only [putAll, Act.put, setIfInBounds_toArray, set_cons_zero, set_cons_succ]
   rfl
  refine one_ (i := 9) (N := none) (mb_ 10 1023) rfl rfl (one_of HT_.out (by kernel_rfl)) (by decide) (fun K hK => ?_)
  have hs14 : w12.cell? ⟨gb195, 0, none⟩ = some (.slice none 0 0) := (blk_cell BK195.out 0).trans rfl
  have hfs14 := blk_frozen BK195.out 0
  have hns14_0 := NB187_195.out
  have hns14_1 := NB188_195.out
  have hms14_0 := NB195_187.out
  have hms14_1 := NB195_188.out
  have hs15 : w12.cell? ⟨gb195, 1, none⟩ = some (.bool false) := (blk_cell BK195.out 1).trans rfl
  have hfs15 := blk_frozen BK195.out 1
  have hns15_0 := NB187_195.out
  have hns15_1 := NB188_195.out
  have hms15_0 := NB195_187.out
  have hms15_1 := NB195_188.out
  refine skip_ (w1 := ?_) (by rfl) rfl ?_ ?_
  rotate_left
  ·
   go_simp
   rfl
  refine hK.out _ _ ⟨((cell_far (p := ⟨gb195, _, none⟩) NB187_195.out _).trans (((cell_far (p := ⟨gb195, _, none⟩) NB187_195.out _).trans (hHeld.1)))), ((cell_far (p := ⟨gb195, _, none⟩) NB187_195.out _).trans (((cell_far (p := ⟨gb195, _, none⟩) NB187_195.out _).trans (hHeld.2))))⟩ (fun hHeld => ?_)
  clear hK K
  refine done_ (done_of HT_.out (by kernel_rfl)) ?_
  try go_wp2
  go_loopg [18] k (fun kq v18 w' => ∃ (x18_1 : Int) (x196000_1 : List Bool) (u196000 : Value), v18 = .int .i64 x18_1 ∧ Aside0 (spec_keRide.l0 kq l1 (l1.length : Int) x18_1 l0_0 a0_1 x196000_1 (!a0_1) = some (r1, r2)) ∧ Aside0 (kq ≤ k) ∧ Aside0 (Kd.R Kd.bool 4 w' w.heap.size (fun _ => True) u196000 x196000_1) ∧ Aside0 (w'.heap[gb187]? = some (.cells #[(.slice A0_0 l0_0.length c0_0), .bool a0_1] 90 (0, 0))) ∧ Aside0 (w'.heap[gb188]? = some (.cells #[(.slice none 0 0), .bool false] 90 (0, 0))) ∧ Aside0 (w'.heap[gb195]? = some (.cells #[u196000, .bool (!a0_1)] 90 (0, 0))) ∧ Aside0 (Below w.heap.size w w'))
  case atStart => exact ⟨(0), (y192), (.slice Ao13 y192.length co13), (ry_), H', ⟨Nat.le_refl _⟩, ⟨by (with_reducible repeat (first | apply Kd.R_alloc | apply Kd.R_drewN | apply Kd.R_drew)); exact Kd.R_mono (Kd.R_far (p := ⟨gb195, 1, none⟩) (Kd.R_far (p := ⟨gb195, 0, none⟩) (Kd.R_types HO194.out BK195.out (by decide)) (fun _ hk => hk.2) (.slice Ao13 y192.length co13)) (fun _ hk => hk.2) (.bool (!a0_1))) (fun _ hk => trivial)⟩, ⟨by (with_reducible repeat (first | refine kN_ ?_ _ | refine k1_ ?_ | refine ka_ ?_ _)); refine blk_far ?_ NB187_195.out _; (with_reducible repeat (first | refine kN_ ?_ _ | refine k1_ ?_ | refine ka_ ?_ _)); refine blk_far ?_ NB187_195.out _; exact pk BK187.out⟩, ⟨by (with_reducible repeat (first | refine kN_ ?_ _ | refine k1_ ?_ | refine ka_ ?_ _)); refine blk_far ?_ NB188_195.out _; (with_reducible repeat (first | refine kN_ ?_ _ | refine k1_ ?_ | refine ka_ ?_ _)); refine blk_far ?_ NB188_195.out _; exact pk BK188.out⟩, ⟨by (with_reducible repeat (first | refine kN_ ?_ _ | refine k1_ ?_ | refine ka_ ?_ _)); refine blk_put (cs := #[.slice Ao13 y192.length co13, .bool false]) ?_ 1 _ rfl; (with_reducible repeat (first | refine kN_ ?_ _ | refine k1_ ?_ | refine ka_ ?_ _)); refine blk_put (cs := #[.slice none 0 0, .bool false]) ?_ 0 _ rfl; exact pk BK195.out⟩, ⟨by repeat (first | exact HB.out | apply ba_ | apply bN_ | apply b1_ | refine below_set ?_ (Aside0.out (by assumption)))⟩⟩
  case round =>
   clear H'
   try clear c1
   try clear p2
   try clear c3
   try clear c7
   obtain ⟨x18_1, x196000_1, u196000, rfl, HA, HK1, HO_196000, BK187, BK188, BK195, HB⟩ := hrel
   cases gk with
   | zero => exact absurd HA.out (by simp [spec_keRide.l0])
   | succ k1 =>
    have H := HA.out
    clear HA
    simp only [spec_keRide.l0] at H
    by_cases c16 : x18_1 < (l1.length : Int)
    ·
     rw [if_pos c16] at H
     have c16b0 : decide (x18_1 < (l1.length : Int)) = true := decide_eq_true c16
     clear c16
     by_cases c17 : 0 ≤ x18_1
     ·
      rw [if_pos c17] at H
      have c17b0 : decide (0 ≤ x18_1) = true := decide_eq_true c17
      clear c17
      by_cases c18 : x18_1 < (l1.length : Int)
      ·
       rw [if_pos c18] at H
       have c18b0 : decide (x18_1 < (l1.length : Int)) = true := decide_eq_true c18
       clear c18
       by_cases c19 : 0 ≤ (rd l1 x18_1)
       ·
        rw [if_pos c19] at H
        have c19b0 : decide (0 ≤ (rd l1 x18_1)) = true := decide_eq_true c19
        clear c19
        by_cases c20 : (rd l1 x18_1) < (l0_0.length : Int)
        ·
         rw [if_pos c20] at H
         have c20b0 : decide ((rd l1 x18_1) < (l0_0.length : Int)) = true := decide_eq_true c20
         clear c20
         by_cases c21 : (rd l1 x18_1) < (x196000_1.length : Int)
         ·
          rw [if_pos c21] at H
          have c21b0 : decide ((rd l1 x18_1) < (x196000_1.length : Int)) = true := decide_eq_true c21
          clear c21
          obtain ⟨y198, hy198⟩ : ∃ y_ : List Bool, y_ = (x196000_1.set ((rd l1 x18_1) : Int).toNat (!(rdOf false l0_0 (rd l1 x18_1)))) := ⟨_, rfl⟩
          replace H : (spec_keRide.l0 k1 l1 (l1.length : Int) (wrap64 (x18_1 + 1)) l0_0 a0_1 y198 (!a0_1)) = some (r1, r2) := by first | (rw [hy198]; exact H) | exact H
          have Ny198 := ak_ hy198
          clear hy198
          have H' := ak_ H
          clear H
          have p196 : 0 ≤ (x18_1 : Int) := odt_ (by assumption)
          have q196 : x18_1 < (l1.length : Int) := odt_ (by assumption)
          obtain ⟨ad196, e196, hx196_0⟩ := Kd.at_int HR1.out x18_1 p196 q196
          cases e196
          try replace hx196_0 := (HB.out.cell (World.block_lt_of_cell? w _ hx196_0)).trans hx196_0
          replace p196 := eq_true p196
          replace q196 := eq_true q196
          try go_wp2
          have n0_ := ak_ (Kd.R_drew HO_196000.out)
          have n1_ := ak_ (k1_ BK187.out)
          have n2_ := ak_ (k1_ BK188.out)
          have n3_ := ak_ (k1_ BK195.out)
          have n4_ := ak_ (b1_ HB.out)
          clear HO_196000 BK187 BK188 BK195 HB
          have HO_196000 := n0_; have BK187 := n1_; have BK188 := n2_; have BK195 := n3_; have HB := n4_
          clear n0_ n1_ n2_ n3_ n4_
          have p197 : 0 ≤ ((rd l1 x18_1) : Int) := odt_ (by assumption)
          have q197 : (rd l1 x18_1) < (l0_0.length : Int) := odt_ (by assumption)
          obtain ⟨ad197, e197, hx197_0⟩ := Kd.at_bool HR0_0.out (rd l1 x18_1) p197 q197
          have hw197_0 := hx197_0
          cases e197
          try replace hx197_0 := (HB.out.cell (World.block_lt_of_cell? w _ hx197_0)).trans hx197_0
          replace p197 := eq_true p197
          replace q197 := eq_true q197
          have p22 : 0 ≤ ((rd l1 x18_1) : Int) := odt_ (by assumption)
          have q22 : ((rd l1 x18_1) : Int) < ((x196000_1.length : Int) : Int) := odt_ (by assumption)
          obtain ⟨go22, co22, eo22, gb22, gl22, cl22, HG22⟩ := Kd.R_form HO_196000.out (by omega)
          (first | cases eo22 | (injection eo22 with ea_ en_ ec_; (first | subst ea_ | (injection ea_ with ea_; subst ea_)); subst ec_; clear en_))
          have GB22 := ak_ gb22
          have GG22 := ak_ HG22
          clear gb22 gl22 HG22
          obtain ⟨hx22_0, hf22_0⟩ := Kd.R_celln false HO_196000.out ((rd l1 x18_1) : Int) p22 q22
          replace p22 := eq_true p22
          replace q22 := eq_true q22
          have HP24 := Kd.R_putn HO_196000.out ((rd l1 x18_1) : Int) (!(rdOf false l0_0 (rd l1 x18_1)))
          rw [← Ny198.out] at HP24
          have HQ24 := ak_ HP24
          clear HP24
          refine start_ (n := 11) (S := fun w' => w'.cell? ⟨gb195, 0, none⟩ = some (.slice (some ⟨go22, 0, none⟩) x196000_1.length co22) ∧ w'.cell? ⟨gb195, 1, none⟩ = some (.bool (!a0_1)) ∧ w'.cell? ⟨gb187, 0, none⟩ = some (.slice (some ad197) l0_0.length c0_0) ∧ w'.cell? ⟨gb187, 1, none⟩ = some (.bool a0_1) ∧ w'.cell? (ad197.add ((rd l1 x18_1)).toNat) = some (.bool (rdOf false l0_0 (rd l1 x18_1)))) (ds := [10]) (mb_ 11 0) (by kernel_rfl) rfl rfl ⟨(blk_cell BK195.out 0).trans rfl, (blk_cell BK195.out 1).trans rfl, (blk_cell BK187.out 0).trans rfl, (blk_cell BK187.out 1).trans rfl, ((HB.out.cell (World.block_lt_of_cell? w _ hw197_0)).trans hw197_0)⟩ (fun hHeld => ?_); refine with_tabW spec_keRide.tab5 spec_keRide.bits5 (fun HT_ HW_ => ?_)
          generalize wr.drew = w23 at HO_196000 BK187 BK188 BK195 HB GG22 HQ24 hf22_0 hx197_0 hx22_0 hHeld ⊢
          refine pu_ 0 22 11 1 ?_
          refine pu_ 2 24 11 5 ?_
          refine pu_ 3 25 11 13 ?_
          refine pu_ 5 27 11 45 ?_
          refine tk_ 1 23 11 47 ?_ (hy := by rintro w' ⟨s0, s1, s2, s3, s4⟩; go_simp; with_reducible rfl)
          refine tk_ 4 26 11 63 ?_ (hy := by rintro w' ⟨s0, s1, s2, s3, s4⟩; go_simp; with_reducible rfl)
          refine pu_ 6 28 11 127 ?_
          refine tk_ 7 29 11 255 ?_ (hy := by rintro w' ⟨s0, s1, s2, s3, s4⟩; go_simp; with_reducible rfl)
          refine pu_ 8 30 11 511 ?_
          refine pu_ 9 31 11 1023 ?_
          refine last_ (i := 10) (N := none) (mb_ 11 2047) rfl rfl (one_of HT_.out (by kernel_rfl)) (by decide) (fun K hK => ?_)
          refine skip_ (w1 := ?_) (by rfl) rfl ?_ ?_
          rotate_left
          ·
           go_simp
           rfl
          refine hK.out _ _ ?_
          clear hK K
          refine done_ (done_of HT_.out (by kernel_rfl)) ?_
          try go_wp2
          go_roundg k1
          case measure => have := HK1.out; omega
          case rel => exact ⟨(wrap64 (x18_1 + 1)), (y198), (.slice (some ⟨go22, 0, none⟩) x196000_1.length co22), (ry_), H', ⟨by have := HK1.out; omega⟩, ⟨Kd.pR HQ24.out⟩, ⟨by (with_reducible repeat (first | refine kN_ ?_ _ | refine k1_ ?_ | refine ka_ ?_ _)); refine blk_far ?_ (by have h_ := Kd.R_ne HO_196000.out BK187.out (by decide); intro e_; exact h_ (by rw [e_]; rfl)) _; exact pk BK187.out⟩, ⟨by (with_reducible repeat (first | refine kN_ ?_ _ | refine k1_ ?_ | refine ka_ ?_ _)); refine blk_far ?_ (by have h_ := Kd.R_ne HO_196000.out BK188.out (by decide); intro e_; exact h_ (by rw [e_]; rfl)) _; exact pk BK188.out⟩, ⟨by (with_reducible repeat (first | refine kN_ ?_ _ | refine k1_ ?_ | refine ka_ ?_ _)); refine blk_far ?_ (by have h_ := Kd.R_ne HO_196000.out BK195.out (by decide); intro e_; exact h_ (by rw [e_]; rfl)) _; exact pk BK195.out⟩, ⟨by repeat (first | exact HB.out | apply ba_ | apply bN_ | apply b1_ | refine below_set ?_ GB22.out | refine below_set ?_ (Aside0.out (by assumption)))⟩⟩
         ·
          rw [if_neg c21] at H
          exact absurd H (by simp)
        ·
         rw [if_neg c20] at H
         exact absurd H (by simp)
       ·
        rw [if_neg c19] at H
        exact absurd H (by simp)
      ·
       rw [if_neg c18] at H
       exact absurd H (by simp)
     ·
      rw [if_neg c17] at H
      exact absurd H (by simp)
    ·
     rw [if_neg c16] at H
     have c16b0 : decide (x18_1 < (l1.length : Int)) = false := decide_eq_false c16
     clear c16
     simp only [Option.some.injEq, Prod.mk.injEq] at H
     obtain ⟨rfl, rfl⟩ := H
     have hnb25 := NB195_187.out
     have hnc25 := NB187_195.out
     have hnb26 := NB195_188.out
     have hnc26 := NB188_195.out
     obtain ⟨hcz27_0, hcz27_1, hfz27_0, hfz27_1⟩ := c2_ BK195.out
     obtain ⟨Ao28, co28, eo28⟩ := Kd.R_slice HO_196000.out
     subst eo28
     have hnb29 := NB188_187.out
     have hnc29 := NB187_188.out
     obtain ⟨hcz30_0, hcz30_1, hfz30_0, hfz30_1⟩ := c2_ BK188.out
     go_wp2
     refine bodyPost_ret (results_cell_row rfl _ _ gb188 90 #[.slice Ao28 x196000_1.length co28, .bool (!a0_1)] (0, 0) _ rfl (by (with_reducible repeat (first | refine kN_ ?_ _ | refine k1_ ?_ | refine ka_ ?_ _)); refine blk_put (cs := #[.slice Ao28 x196000_1.length co28, .bool false]) ?_ 1 _ rfl; (with_reducible repeat (first | refine kN_ ?_ _ | refine k1_ ?_ | refine ka_ ?_ _)); refine blk_put (cs := #[.slice none 0 0, .bool false]) ?_ 0 _ rfl; exact pk BK188.out) Try.underlying90 rfl (by kernel_rfl)) rfl ?_
     exact ⟨_, rx_, by (with_reducible repeat (first | apply Kd.R_alloc | apply Kd.R_drewN | apply Kd.R_drew)); exact Kd.R_mono (Kd.R_far (p := ⟨gb188, 1, none⟩) (Kd.R_far (p := ⟨gb188, 0, none⟩) (Kd.R_types HO_196000.out BK188.out (by decide)) (fun _ hk => hk.2) (.slice Ao28 x196000_1.length co28)) (fun _ hk => hk.2) (.bool (!a0_1))) (fun _ hk => trivial), by repeat (first | exact HB.out | apply ba_ | apply bN_ | apply b1_ | refine below_set ?_ (Aside0.out (by assumption)))⟩
 ·
  rw [if_neg c3] at H
  exact absurd H (by simp)
def spec_keNow.l0 : Nat → List (List Int) → List (List Int) → Int → Int → List Bool → Bool → Option ((List (List Int)))
 | 0, _, _, _, _, _, _ => none
 | k + 1, x5, x9, x10, x11, x213000, x213001 => if x11 < x10 then (if 0 ≤ x11 then (if x11 < (x9.length : Int) then (if 0 < ((rd_L1 x9 x11).length : Int) then (if 0 ≤ (rd (rd_L1 x9 x11) 0) then (if (rd (rd_L1 x9 x11) 0) < (x213000.length : Int) then (if ((rdOf false x213000 (rd (rd_L1 x9 x11) 0)) != x213001) = true then (if 1 < ((rd_L1 x9 x11).length : Int) then (if 0 ≤ (rd (rd_L1 x9 x11) 1) then (if (rd (rd_L1 x9 x11) 1) < (x213000.length : Int) then (if ((rdOf false x213000 (rd (rd_L1 x9 x11) 1)) != x213001) = true then ((spec_l1Own.f (rd_L1 x9 x11)).bind fun t218 => (if x5.length < 5864062014805 then (spec_keNow.l0 k (x5 ++ [t218]) x9 x10 (wrap64 (x11 + 1)) x213000 x213001) else (none))) else (spec_keNow.l0 k x5 x9 x10 (wrap64 (x11 + 1)) x213000 x213001)) else (none)) else (none)) else (none)) else (spec_keNow.l0 k x5 x9 x10 (wrap64 (x11 + 1)) x213000 x213001)) else (none)) else (none)) else (none)) else (none)) else (none)) else (some x5)
def spec_keNow.f (k : Nat) (a0_0 : Int) (l0_1 : List (List Int)) (a0_2 : Int) (l1_0 : List Bool) (a1_1 : Bool) : Option ((List (List Int))) := spec_keNow.l0 k ([] : List (List Int)) l0_1 (l0_1.length : Int) 0 l1_0 a1_1
theorem spec_keNow.mono_l : ∀ k, (∀ y0 y1 y2 y3 y4 y5, LeO (spec_keNow.l0 k y0 y1 y2 y3 y4 y5) (spec_keNow.l0 (k + 1) y0 y1 y2 y3 y4 y5))
 | 0 => fun _ _ _ _ _ _ r h => by simp [spec_keNow.l0] at h
 | k + 1 => by
  have ih0 := spec_keNow.mono_l k
  ·intro y0 y1 y2 y3 y4 y5
   unfold spec_keNow.l0
   repeat' first
   | (with_reducible first | exact ih0 _ _ _ _ _ _ | exact LeO.refl _ | exact LeO.none _ | refine LeO.ite ?_ ?_ | refine LeO.bind ?_ (fun _ => ?_))
theorem spec_keNow.mono : ∀ a0 a1 a2 a3 a4 k, LeO (spec_keNow.f k a0 a1 a2 a3 a4) (spec_keNow.f (k + 1) a0 a1 a2 a3 a4) := by
 intro a0 a1 a2 a3 a4 k
 have ih0 := spec_keNow.mono_l k
 unfold spec_keNow.f
 repeat' first
  | (with_reducible first | exact ih0 _ _ _ _ _ _ | exact LeO.refl _ | exact LeO.none _ | refine LeO.ite ?_ ?_ | refine LeO.bind ?_ (fun _ => ?_))
theorem spec_keNow.calls (k : Nat) (a0_0 : Int) (A0_1 : Option Addr) (c0_1 : Nat) (l0_1 : List (List Int)) (a0_2 : Int) (A1_0 : Option Addr) (c1_0 : Nat) (l1_0 : List Bool) (a1_1 : Bool) (r : List (List Int)) (w : World) (hr0_1 : Kd.C (Kd.slice 3 (Kd.int .i64)) w A0_1 l0_1.length l0_1) (hc0_1 : l0_1.length ≤ c0_1) (hr1_0 : Kd.C Kd.bool w A1_0 l1_0.length l1_0) (hc1_0 : l1_0.length ≤ c1_0) (h : spec_keNow.f k a0_0 l0_1 a0_2 l1_0 a1_1 = some r) :
  Calls Try.prog 145 #[.agg #[.int .i64 a0_0, .slice A0_1 l0_1.length c0_1, .int .i64 a0_2], .agg #[.slice A1_0 l1_0.length c1_0, .bool a1_1]] w fun e w' => ∃ v0_ : Value, e = .returned (v0_) ∧ Kd.S (Kd.slice 3 (Kd.int .i64)) 29 w' w.heap.size (fun _ => True) v0_ r ∧ Below w.heap.size w w' := by
 have hu52 := Try.underlying52
 have hu90 := Try.underlying90
 have HR0_1 := ak_ hr0_1
 have HC0_1 := ak_ hc0_1
 clear hr0_1 hc0_1
 have HR1_0 := ak_ hr1_0
 have HC1_0 := ak_ hc1_0
 clear hr1_0 hc1_0
 have HB := ak_ (Below.refl w.heap.size w)
 have H : (spec_keNow.l0 k ([] : List (List Int)) l0_1 (l0_1.length : Int) 0 l1_0 a1_1) = some r := h
 clear h
 have H' := ak_ H
 clear H
 go_enter Try.func145, Try.ntmps145
 go_wp2_with (first | ((with_reducible refine gate_dst (N := 2) rfl ?_); refine bx_ 2 #[.int .i64 a0_0, .slice A0_1 l0_1.length c0_1, .int .i64 a0_2] 52 ?_; intro gb211 hg w3 hbox hb; have n0_ := ak_ (bs_ (bb_ HB.out) hb); have n1_ := ak_ (hbox); have n2_ := ak_ ((by rw [hg]; exact (bz_ (bb_ HB.out)) : w.heap.size ≤ gb211)); have n3_ := n2_; clear HB; have HB := n0_; have BK211 := n1_; have GW211 := n2_; have GE211 := n3_; clear n0_ n1_ n2_ n3_; clear hb hbox hg) | ((with_reducible refine gate_dst (N := 3) rfl ?_); refine bx_ 3 #[.slice A1_0 l1_0.length c1_0, .bool a1_1] 90 ?_; intro gb212 hg w4 hbox hb; have n0_ := ak_ (blk_below (pk BK211.out) hb); have n1_ := ak_ (bs_ bl_ hb); have n2_ := ak_ (hbox); have n3_ := ak_ ((by rw [hg]; exact (bz_ bl_) : w.heap.size ≤ gb212)); have n4_ := n3_; have n5_ := ak_ ((by rw [hg]; exact Nat.ne_of_lt (blk_lt (pk BK211.out)) : gb211 ≠ gb212)); have n6_ := ak_ n5_.out.symm; clear BK211; clear HB; have BK211 := n0_; have HB := n1_; have BK212 := n2_; have GW212 := n3_; have GE212 := n4_; have NB211_212 := n5_; have NB212_211 := n6_; clear n0_ n1_ n2_ n3_ n4_ n5_ n6_; clear hb hbox hg; have hnb5 := NB211_212.out; have hnc5 := NB212_211.out; obtain ⟨hcz6_0, hcz6_1, hcz6_2, hfz6_0, hfz6_1, hfz6_2⟩ := c3_ BK211.out))
 repeat (go_quiet (first | ((with_reducible refine gate_dst (N := 2) rfl ?_); refine bx_ 2 #[.int .i64 a0_0, .slice A0_1 l0_1.length c0_1, .int .i64 a0_2] 52 ?_; intro gb211 hg w3 hbox hb; have n0_ := ak_ (bs_ (bb_ HB.out) hb); have n1_ := ak_ (hbox); have n2_ := ak_ ((by rw [hg]; exact (bz_ (bb_ HB.out)) : w.heap.size ≤ gb211)); have n3_ := n2_; clear HB; have HB := n0_; have BK211 := n1_; have GW211 := n2_; have GE211 := n3_; clear n0_ n1_ n2_ n3_; clear hb hbox hg) | ((with_reducible refine gate_dst (N := 3) rfl ?_); refine bx_ 3 #[.slice A1_0 l1_0.length c1_0, .bool a1_1] 90 ?_; intro gb212 hg w4 hbox hb; have n0_ := ak_ (blk_below (pk BK211.out) hb); have n1_ := ak_ (bs_ bl_ hb); have n2_ := ak_ (hbox); have n3_ := ak_ ((by rw [hg]; exact (bz_ bl_) : w.heap.size ≤ gb212)); have n4_ := n3_; have n5_ := ak_ ((by rw [hg]; exact Nat.ne_of_lt (blk_lt (pk BK211.out)) : gb211 ≠ gb212)); have n6_ := ak_ n5_.out.symm; clear BK211; clear HB; have BK211 := n0_; have HB := n1_; have BK212 := n2_; have GW212 := n3_; have GE212 := n4_; have NB211_212 := n5_; have NB212_211 := n6_; clear n0_ n1_ n2_ n3_ n4_ n5_ n6_; clear hb hbox hg; have hnb5 := NB211_212.out; have hnc5 := NB212_211.out; obtain ⟨hcz6_0, hcz6_1, hcz6_2, hfz6_0, hfz6_1, hfz6_2⟩ := c3_ BK211.out)); try go_wp2_with (first | ((with_reducible refine gate_dst (N := 2) rfl ?_); refine bx_ 2 #[.int .i64 a0_0, .slice A0_1 l0_1.length c0_1, .int .i64 a0_2] 52 ?_; intro gb211 hg w3 hbox hb; have n0_ := ak_ (bs_ (bb_ HB.out) hb); have n1_ := ak_ (hbox); have n2_ := ak_ ((by rw [hg]; exact (bz_ (bb_ HB.out)) : w.heap.size ≤ gb211)); have n3_ := n2_; clear HB; have HB := n0_; have BK211 := n1_; have GW211 := n2_; have GE211 := n3_; clear n0_ n1_ n2_ n3_; clear hb hbox hg) | ((with_reducible refine gate_dst (N := 3) rfl ?_); refine bx_ 3 #[.slice A1_0 l1_0.length c1_0, .bool a1_1] 90 ?_; intro gb212 hg w4 hbox hb; have n0_ := ak_ (blk_below (pk BK211.out) hb); have n1_ := ak_ (bs_ bl_ hb); have n2_ := ak_ (hbox); have n3_ := ak_ ((by rw [hg]; exact (bz_ bl_) : w.heap.size ≤ gb212)); have n4_ := n3_; have n5_ := ak_ ((by rw [hg]; exact Nat.ne_of_lt (blk_lt (pk BK211.out)) : gb211 ≠ gb212)); have n6_ := ak_ n5_.out.symm; clear BK211; clear HB; have BK211 := n0_; have HB := n1_; have BK212 := n2_; have GW212 := n3_; have GE212 := n4_; have NB211_212 := n5_; have NB212_211 := n6_; clear n0_ n1_ n2_ n3_ n4_ n5_ n6_; clear hb hbox hg; have hnb5 := NB211_212.out; have hnc5 := NB212_211.out; obtain ⟨hcz6_0, hcz6_1, hcz6_2, hfz6_0, hfz6_1, hfz6_2⟩ := c3_ BK211.out)))
 go_loopg [5, 11] k (fun kq v5 v11 w' => ∃ (x5_1 : List (List Int)) (x11_1 : Int), v11 = .int .i64 x11_1 ∧ Aside0 (spec_keNow.l0 kq x5_1 l0_1 (l0_1.length : Int) x11_1 l1_0 a1_1 = some r) ∧ Aside0 (kq ≤ k) ∧ Aside0 (Kd.S (Kd.slice 3 (Kd.int .i64)) 29 w' w.heap.size (fun _ => True) v5 x5_1) ∧ Aside0 (w'.heap[gb211]? = some (.cells #[.int .i64 a0_0, (.slice A0_1 l0_1.length c0_1), .int .i64 a0_2] 52 (0, 0))) ∧ Aside0 (w'.heap[gb212]? = some (.cells #[(.slice A1_0 l1_0.length c1_0), .bool a1_1] 90 (0, 0))) ∧ Aside0 (Below w.heap.size w w'))
 case atStart => exact ⟨(([] : List (List Int))), (0), (ry_), H', ⟨Nat.le_refl _⟩, ⟨by first | exact Kd.S_nil _ _ _ _ _ | exact Kd.N_nil _ _ _ _ _ | exact Kd.V_nil _ _ _ _ _ | exact Kd.Q_nil _ _ _ _ _ | exact Kd.R_nil _ _ _ _ _⟩, ⟨pk BK211.out⟩, ⟨pk BK212.out⟩, ⟨by repeat (first | exact HB.out | apply ba_ | apply bN_ | apply b1_ | refine below_set ?_ (Aside0.out (by assumption)))⟩⟩
 case round =>
  clear H'
  try clear c1
  try clear p2
  try clear c5
  try clear hcz6_0
  try clear hcz6_1
  try clear hcz6_2
  try clear hfz6_0
  try clear hfz6_1
  try clear hfz6_2
  obtain ⟨x5_1, x11_1, rfl, HA, HK1, HO_5, BK211, BK212, HB⟩ := hrel
  cases gk with
  | zero => exact absurd HA.out (by simp [spec_keNow.l0])
  | succ k1 =>
   have H := HA.out
   clear HA
   simp only [spec_keNow.l0] at H
   by_cases c7 : x11_1 < (l0_1.length : Int)
   ·
    rw [if_pos c7] at H
    have c7b0 : decide (x11_1 < (l0_1.length : Int)) = true := decide_eq_true c7
    clear c7
    by_cases c8 : 0 ≤ x11_1
    ·
     rw [if_pos c8] at H
     have c8b0 : decide (0 ≤ x11_1) = true := decide_eq_true c8
     clear c8
     by_cases c9 : x11_1 < (l0_1.length : Int)
     ·
      rw [if_pos c9] at H
      have c9b0 : decide (x11_1 < (l0_1.length : Int)) = true := decide_eq_true c9
      clear c9
      by_cases c10 : 0 < ((rd_L1 l0_1 x11_1).length : Int)
      ·
       rw [if_pos c10] at H
       have c10b0 : decide (0 < ((rd_L1 l0_1 x11_1).length : Int)) = true := decide_eq_true c10
       have c10b1 : decide (0 < (rd_L1 l0_1 x11_1).length) = true := decide_eq_true (by omega)
       clear c10
       by_cases c11 : 0 ≤ (rd (rd_L1 l0_1 x11_1) 0)
       ·
        rw [if_pos c11] at H
        have c11b0 : decide (0 ≤ (rd (rd_L1 l0_1 x11_1) 0)) = true := decide_eq_true c11
        clear c11
        by_cases c12 : (rd (rd_L1 l0_1 x11_1) 0) < (l1_0.length : Int)
        ·
         rw [if_pos c12] at H
         have c12b0 : decide ((rd (rd_L1 l0_1 x11_1) 0) < (l1_0.length : Int)) = true := decide_eq_true c12
         clear c12
         by_cases c13 : ((rdOf false l1_0 (rd (rd_L1 l0_1 x11_1) 0)) != a1_1) = true
         ·
          rw [if_pos c13] at H
          have c13b0 : ((rdOf false l1_0 (rd (rd_L1 l0_1 x11_1) 0)) != a1_1) = true := c13
          (try (have c13b1 : decide ((rdOf false l1_0 (rd (rd_L1 l0_1 x11_1) 0)) = a1_1) = false := by simpa using c13))
          (try (have c13b2 : ((rdOf false l1_0 (rd (rd_L1 l0_1 x11_1) 0)) == a1_1) = false := by simpa using c13))
          (try (have c13b3 : ¬ ((rdOf false l1_0 (rd (rd_L1 l0_1 x11_1) 0)) = a1_1) := by simpa using c13))
          clear c13
          by_cases c14 : 1 < ((rd_L1 l0_1 x11_1).length : Int)
          ·
           rw [if_pos c14] at H
           have c14b0 : decide (1 < ((rd_L1 l0_1 x11_1).length : Int)) = true := decide_eq_true c14
           have c14b1 : decide (1 < (rd_L1 l0_1 x11_1).length) = true := decide_eq_true (by omega)
           clear c14
           by_cases c15 : 0 ≤ (rd (rd_L1 l0_1 x11_1) 1)
           ·
            rw [if_pos c15] at H
            have c15b0 : decide (0 ≤ (rd (rd_L1 l0_1 x11_1) 1)) = true := decide_eq_true c15
            clear c15
            by_cases c16 : (rd (rd_L1 l0_1 x11_1) 1) < (l1_0.length : Int)
            ·
             rw [if_pos c16] at H
             have c16b0 : decide ((rd (rd_L1 l0_1 x11_1) 1) < (l1_0.length : Int)) = true := decide_eq_true c16
             clear c16
             by_cases c17 : ((rdOf false l1_0 (rd (rd_L1 l0_1 x11_1) 1)) != a1_1) = true
             ·
              rw [if_pos c17] at H
              have c17b0 : ((rdOf false l1_0 (rd (rd_L1 l0_1 x11_1) 1)) != a1_1) = true := c17
              (try (have c17b1 : decide ((rdOf false l1_0 (rd (rd_L1 l0_1 x11_1) 1)) = a1_1) = false := by simpa using c17))
              (try (have c17b2 : ((rdOf false l1_0 (rd (rd_L1 l0_1 x11_1) 1)) == a1_1) = false := by simpa using c17))
              (try (have c17b3 : ¬ ((rdOf false l1_0 (rd (rd_L1 l0_1 x11_1) 1)) = a1_1) := by simpa using c17))
              clear c17
              replace H := Option.bind_eq_some_iff.mp H
              obtain ⟨t218, A180, H⟩ := H
              replace H : (if x5_1.length < 5864062014805 then (spec_keNow.l0 k1 (x5_1 ++ [t218]) l0_1 (l0_1.length : Int) (wrap64 (x11_1 + 1)) l1_0 a1_1) else (none)) = some r := H
              have A18 := ak_ A180
              clear A180
              by_cases c19 : x5_1.length < 5864062014805
              ·
               rw [if_pos c19] at H
               have LMc19 := ak_ c19
               clear c19
               obtain ⟨y221, hy221⟩ : ∃ y_ : List (List Int), y_ = (x5_1 ++ [t218]) := ⟨_, rfl⟩
               replace H : (spec_keNow.l0 k1 y221 l0_1 (l0_1.length : Int) (wrap64 (x11_1 + 1)) l1_0 a1_1) = some r := by first | (rw [hy221]; exact H) | exact H
               have Ny221 := ak_ hy221
               clear hy221
               have H' := ak_ H
               clear H
               have p213 : 0 ≤ (x11_1 : Int) := odt_ (by assumption)
               have q213 : x11_1 < (l0_1.length : Int) := odt_ (by assumption)
               obtain ⟨ad213, A213_0, c213_0, e213, hx213_0, hl213_0, hi213_0⟩ := at_L1 HR0_1.out x11_1 p213 q213
               cases e213
               try replace hx213_0 := (HB.out.cell (World.block_lt_of_cell? w _ hx213_0)).trans hx213_0
               have HR213_0 := ak_ hi213_0
               have HC213_0 := ak_ hl213_0
               clear hi213_0 hl213_0
               replace p213 := eq_true p213
               replace q213 := eq_true q213
               have hnb20 := NB212_211.out
               have hnc20 := NB211_212.out
               obtain ⟨hcz21_0, hcz21_1, hfz21_0, hfz21_1⟩ := c2_ BK212.out
               have p214 : 0 ≤ (0 : Int) := (by omega)
               have q214 : 0 < ((rd_L1 l0_1 x11_1).length : Int) := odt_ (by assumption)
               obtain ⟨ad214, e214, hx214_0⟩ := Kd.at_int HR213_0.out 0 p214 q214
               cases e214
               have qi214 : (0 < (rd_L1 l0_1 x11_1).length) = True := eq_true (by omega)
               (try rw [show ((0 : Int)).toNat = 0 from rfl] at hx214_0)
               (try rw [Addr.add_zero'] at hx214_0)
               try replace hx214_0 := (HB.out.cell (World.block_lt_of_cell? w _ hx214_0)).trans hx214_0
               replace p214 := eq_true p214
               replace q214 := eq_true q214
               have p215 : 0 ≤ ((rd (rd_L1 l0_1 x11_1) 0) : Int) := odt_ (by assumption)
               have q215 : (rd (rd_L1 l0_1 x11_1) 0) < (l1_0.length : Int) := odt_ (by assumption)
               obtain ⟨ad215, e215, hx215_0⟩ := Kd.at_bool HR1_0.out (rd (rd_L1 l0_1 x11_1) 0) p215 q215
               cases e215
               try replace hx215_0 := (HB.out.cell (World.block_lt_of_cell? w _ hx215_0)).trans hx215_0
               replace p215 := eq_true p215
               replace q215 := eq_true q215
               have p216 : 0 ≤ (1 : Int) := (by omega)
               have q216 : 1 < ((rd_L1 l0_1 x11_1).length : Int) := odt_ (by assumption)
               obtain ⟨ad216, e216, hx216_0⟩ := Kd.at_int HR213_0.out 1 p216 q216
               obtain rfl : ad214 = ad216 := (by injection e216)
               (try simp only [show (1 : Int).toNat = 1 from rfl, Nat.reduceMul, Nat.reduceEqDiff, Go.Addr.add, ↓reduceIte] at hx216_0)
               have qi216 : (1 < (rd_L1 l0_1 x11_1).length) = True := eq_true (by omega)
               (try rw [show ((1 : Int)).toNat = 1 from rfl] at hx216_0)
               try replace hx216_0 := (HB.out.cell (World.block_lt_of_cell? w _ hx216_0)).trans hx216_0
               replace p216 := eq_true p216
               replace q216 := eq_true q216
               have p217 : 0 ≤ ((rd (rd_L1 l0_1 x11_1) 1) : Int) := odt_ (by assumption)
               have q217 : (rd (rd_L1 l0_1 x11_1) 1) < (l1_0.length : Int) := odt_ (by assumption)
               obtain ⟨ad217, e217, hx217_0⟩ := Kd.at_bool HR1_0.out (rd (rd_L1 l0_1 x11_1) 1) p217 q217
               obtain rfl : ad215 = ad217 := (by injection e217)
               try replace hx217_0 := (HB.out.cell (World.block_lt_of_cell? w _ hx217_0)).trans hx217_0
               replace p217 := eq_true p217
               replace q217 := eq_true q217
               go_wp2_with (first | (go_at_call 130; (with_reducible refine (spec_l1Own.calls _ _ (rd_L1 l0_1 x11_1) t218 _ ?side1 ?side2 A18.out).mono ?_); (case side1 => exact cs_ (Kd.C_below HR213_0.out HB.out)); (case side2 => exact HC213_0.out); rintro e w22 ⟨v219, rfl, ho0, hb⟩; have n0_ := ak_ (Kd.S_elder' (Kd.pS HO_5.out) (Kd.R_base ho0) hb); have n1_ := ak_ (Kd.R_lower ho0 (bz_ bl_)); have n2_ := ak_ (blk_below (pk BK211.out) hb); have n3_ := ak_ (blk_below (pk BK212.out) hb); have n4_ := ak_ (bs_ bl_ hb); clear HO_5; clear BK211; clear BK212; clear HB; have HO_5 := n0_; have HO220 := n1_; have BK211 := n2_; have BK212 := n3_; have HB := n4_; clear n0_ n1_ n2_ n3_ n4_; (try clear hb); (try clear hb2); (try clear hk); (try clear hi); (try clear ho0); obtain ⟨Ao24, co24, eo24⟩ := Kd.R_slice HO220.out; subst eo24) | ((with_reducible refine gate_builtin (b := .append) (xs := #[.tmp 37, .tmp 40]) rfl ?_); at_builtin; refine Kd.S_append (Kd.slice 3 (Kd.int .i64)) (w0 := w) w.heap.size rfl (.tmp 37) (.tmp 40) 47 29 (.slice none 0 0) 24 rfl Try.underlying47 info29 rfl (by decide) (by omega) u5 x5_1 t218 [.slice Ao24 t218.length co24] (fun _ => True) (fun k_ => some k_ = (.slice Ao24 t218.length co24 : Value).ownBlock) rfl rfl ?aP (fun k_ hk_ => ((Kd.R_mono (ok' := fun k_ => ((fun _ => True)) k_ ∧ some k_ ≠ (u5 : Value).ownBlock) (Kd.R_apart' (HO220.out) (Kd.S_typed HO_5.out) (by decide)) (fun k_ hk => ⟨trivial, hk.2⟩))).1 k_ hk_.symm) ?aF ?aO ?aB ?aS ?aL ?_; (case aP => exact Kd.M_row (Kd.R_mono (Kd.R_tight rfl (Kd.R_mono (ok' := fun k_ => ((fun _ => True)) k_ ∧ some k_ ≠ (u5 : Value).ownBlock) (Kd.R_apart' (HO220.out) (Kd.S_typed HO_5.out) (by decide)) (fun k_ hk => ⟨trivial, hk.2⟩))) (fun _ h_ => h_))); (case aB => exact bl_); (case aF => exact (fun _ _ => trivial)); (case aO => exact (by (with_reducible repeat (first | apply Kd.S_alloc | apply Kd.S_drewN | apply Kd.S_drew)); exact Kd.S_mono HO_5.out (fun k_ hk => ⟨trivial, fun e_ => hk.2 e_⟩))); (case aS => exact (bz_ bl_)); (case aL => have := LMc19.out; omega); intro v222 w23 ho hb hg hat; rw [← Ny221.out] at ho; have n0_ := ak_ (blk_grown (pk BK211.out) hg (Kd.S_ne HO_5.out BK211.out (by decide))); have n1_ := ak_ (blk_grown (pk BK212.out) hg (Kd.S_ne HO_5.out BK212.out (by decide))); have n2_ := ak_ (hb); have n3_ := ak_ (ho); clear BK211; clear BK212; clear HB; clear HO_5; clear HO220; have BK211 := n0_; have BK212 := n1_; have HB := n2_; have HO223 := n3_; clear n0_ n1_ n2_ n3_; clear ho hb hg hat))
               repeat (go_quiet (first | (go_at_call 130; (with_reducible refine (spec_l1Own.calls _ _ (rd_L1 l0_1 x11_1) t218 _ ?side1 ?side2 A18.out).mono ?_); (case side1 => exact cs_ (Kd.C_below HR213_0.out HB.out)); (case side2 => exact HC213_0.out); rintro e w22 ⟨v219, rfl, ho0, hb⟩; have n0_ := ak_ (Kd.S_elder' (Kd.pS HO_5.out) (Kd.R_base ho0) hb); have n1_ := ak_ (Kd.R_lower ho0 (bz_ bl_)); have n2_ := ak_ (blk_below (pk BK211.out) hb); have n3_ := ak_ (blk_below (pk BK212.out) hb); have n4_ := ak_ (bs_ bl_ hb); clear HO_5; clear BK211; clear BK212; clear HB; have HO_5 := n0_; have HO220 := n1_; have BK211 := n2_; have BK212 := n3_; have HB := n4_; clear n0_ n1_ n2_ n3_ n4_; (try clear hb); (try clear hb2); (try clear hk); (try clear hi); (try clear ho0); obtain ⟨Ao24, co24, eo24⟩ := Kd.R_slice HO220.out; subst eo24) | ((with_reducible refine gate_builtin (b := .append) (xs := #[.tmp 37, .tmp 40]) rfl ?_); at_builtin; refine Kd.S_append (Kd.slice 3 (Kd.int .i64)) (w0 := w) w.heap.size rfl (.tmp 37) (.tmp 40) 47 29 (.slice none 0 0) 24 rfl Try.underlying47 info29 rfl (by decide) (by omega) u5 x5_1 t218 [.slice Ao24 t218.length co24] (fun _ => True) (fun k_ => some k_ = (.slice Ao24 t218.length co24 : Value).ownBlock) rfl rfl ?aP (fun k_ hk_ => ((Kd.R_mono (ok' := fun k_ => ((fun _ => True)) k_ ∧ some k_ ≠ (u5 : Value).ownBlock) (Kd.R_apart' (HO220.out) (Kd.S_typed HO_5.out) (by decide)) (fun k_ hk => ⟨trivial, hk.2⟩))).1 k_ hk_.symm) ?aF ?aO ?aB ?aS ?aL ?_; (case aP => exact Kd.M_row (Kd.R_mono (Kd.R_tight rfl (Kd.R_mono (ok' := fun k_ => ((fun _ => True)) k_ ∧ some k_ ≠ (u5 : Value).ownBlock) (Kd.R_apart' (HO220.out) (Kd.S_typed HO_5.out) (by decide)) (fun k_ hk => ⟨trivial, hk.2⟩))) (fun _ h_ => h_))); (case aB => exact bl_); (case aF => exact (fun _ _ => trivial)); (case aO => exact (by (with_reducible repeat (first | apply Kd.S_alloc | apply Kd.S_drewN | apply Kd.S_drew)); exact Kd.S_mono HO_5.out (fun k_ hk => ⟨trivial, fun e_ => hk.2 e_⟩))); (case aS => exact (bz_ bl_)); (case aL => have := LMc19.out; omega); intro v222 w23 ho hb hg hat; rw [← Ny221.out] at ho; have n0_ := ak_ (blk_grown (pk BK211.out) hg (Kd.S_ne HO_5.out BK211.out (by decide))); have n1_ := ak_ (blk_grown (pk BK212.out) hg (Kd.S_ne HO_5.out BK212.out (by decide))); have n2_ := ak_ (hb); have n3_ := ak_ (ho); clear BK211; clear BK212; clear HB; clear HO_5; clear HO220; have BK211 := n0_; have BK212 := n1_; have HB := n2_; have HO223 := n3_; clear n0_ n1_ n2_ n3_; clear ho hb hg hat)); try go_wp2_with (first | (go_at_call 130; (with_reducible refine (spec_l1Own.calls _ _ (rd_L1 l0_1 x11_1) t218 _ ?side1 ?side2 A18.out).mono ?_); (case side1 => exact cs_ (Kd.C_below HR213_0.out HB.out)); (case side2 => exact HC213_0.out); rintro e w22 ⟨v219, rfl, ho0, hb⟩; have n0_ := ak_ (Kd.S_elder' (Kd.pS HO_5.out) (Kd.R_base ho0) hb); have n1_ := ak_ (Kd.R_lower ho0 (bz_ bl_)); have n2_ := ak_ (blk_below (pk BK211.out) hb); have n3_ := ak_ (blk_below (pk BK212.out) hb); have n4_ := ak_ (bs_ bl_ hb); clear HO_5; clear BK211; clear BK212; clear HB; have HO_5 := n0_; have HO220 := n1_; have BK211 := n2_; have BK212 := n3_; have HB := n4_; clear n0_ n1_ n2_ n3_ n4_; (try clear hb); (try clear hb2); (try clear hk); (try clear hi); (try clear ho0); obtain ⟨Ao24, co24, eo24⟩ := Kd.R_slice HO220.out; subst eo24) | ((with_reducible refine gate_builtin (b := .append) (xs := #[.tmp 37, .tmp 40]) rfl ?_); at_builtin; refine Kd.S_append (Kd.slice 3 (Kd.int .i64)) (w0 := w) w.heap.size rfl (.tmp 37) (.tmp 40) 47 29 (.slice none 0 0) 24 rfl Try.underlying47 info29 rfl (by decide) (by omega) u5 x5_1 t218 [.slice Ao24 t218.length co24] (fun _ => True) (fun k_ => some k_ = (.slice Ao24 t218.length co24 : Value).ownBlock) rfl rfl ?aP (fun k_ hk_ => ((Kd.R_mono (ok' := fun k_ => ((fun _ => True)) k_ ∧ some k_ ≠ (u5 : Value).ownBlock) (Kd.R_apart' (HO220.out) (Kd.S_typed HO_5.out) (by decide)) (fun k_ hk => ⟨trivial, hk.2⟩))).1 k_ hk_.symm) ?aF ?aO ?aB ?aS ?aL ?_; (case aP => exact Kd.M_row (Kd.R_mono (Kd.R_tight rfl (Kd.R_mono (ok' := fun k_ => ((fun _ => True)) k_ ∧ some k_ ≠ (u5 : Value).ownBlock) (Kd.R_apart' (HO220.out) (Kd.S_typed HO_5.out) (by decide)) (fun k_ hk => ⟨trivial, hk.2⟩))) (fun _ h_ => h_))); (case aB => exact bl_); (case aF => exact (fun _ _ => trivial)); (case aO => exact (by (with_reducible repeat (first | apply Kd.S_alloc | apply Kd.S_drewN | apply Kd.S_drew)); exact Kd.S_mono HO_5.out (fun k_ hk => ⟨trivial, fun e_ => hk.2 e_⟩))); (case aS => exact (bz_ bl_)); (case aL => have := LMc19.out; omega); intro v222 w23 ho hb hg hat; rw [← Ny221.out] at ho; have n0_ := ak_ (blk_grown (pk BK211.out) hg (Kd.S_ne HO_5.out BK211.out (by decide))); have n1_ := ak_ (blk_grown (pk BK212.out) hg (Kd.S_ne HO_5.out BK212.out (by decide))); have n2_ := ak_ (hb); have n3_ := ak_ (ho); clear BK211; clear BK212; clear HB; clear HO_5; clear HO220; have BK211 := n0_; have BK212 := n1_; have HB := n2_; have HO223 := n3_; clear n0_ n1_ n2_ n3_; clear ho hb hg hat)))
               go_roundg k1
               case measure => have := HK1.out; omega
               case rel => exact ⟨(y221), (wrap64 (x11_1 + 1)), (ry_), H', ⟨by have := HK1.out; omega⟩, ⟨Kd.pS HO223.out⟩, ⟨pk BK211.out⟩, ⟨pk BK212.out⟩, ⟨by repeat (first | exact HB.out | apply ba_ | apply bN_ | apply b1_ | refine below_set ?_ (Aside0.out (by assumption)))⟩⟩
              ·
               rw [if_neg c19] at H
               exact absurd H (by simp)
             ·
              rw [if_neg c17] at H
              have c17b0 : ((rdOf false l1_0 (rd (rd_L1 l0_1 x11_1) 1)) != a1_1) = false := by simpa using c17
              (try (have c17b1 : decide ((rdOf false l1_0 (rd (rd_L1 l0_1 x11_1) 1)) = a1_1) = true := by simpa using c17))
              (try (have c17b2 : ((rdOf false l1_0 (rd (rd_L1 l0_1 x11_1) 1)) == a1_1) = true := by simpa using c17))
              clear c17
              have H' := ak_ H
              clear H
              have p213 : 0 ≤ (x11_1 : Int) := odt_ (by assumption)
              have q213 : x11_1 < (l0_1.length : Int) := odt_ (by assumption)
              obtain ⟨ad213, A213_0, c213_0, e213, hx213_0, hl213_0, hi213_0⟩ := at_L1 HR0_1.out x11_1 p213 q213
              cases e213
              try replace hx213_0 := (HB.out.cell (World.block_lt_of_cell? w _ hx213_0)).trans hx213_0
              have HR213_0 := ak_ hi213_0
              have HC213_0 := ak_ hl213_0
              clear hi213_0 hl213_0
              replace p213 := eq_true p213
              replace q213 := eq_true q213
              have hnb25 := NB212_211.out
              have hnc25 := NB211_212.out
              obtain ⟨hcz26_0, hcz26_1, hfz26_0, hfz26_1⟩ := c2_ BK212.out
              have p214 : 0 ≤ (0 : Int) := (by omega)
              have q214 : 0 < ((rd_L1 l0_1 x11_1).length : Int) := odt_ (by assumption)
              obtain ⟨ad214, e214, hx214_0⟩ := Kd.at_int HR213_0.out 0 p214 q214
              cases e214
              have qi214 : (0 < (rd_L1 l0_1 x11_1).length) = True := eq_true (by omega)
              (try rw [show ((0 : Int)).toNat = 0 from rfl] at hx214_0)
              (try rw [Addr.add_zero'] at hx214_0)
              try replace hx214_0 := (HB.out.cell (World.block_lt_of_cell? w _ hx214_0)).trans hx214_0
              replace p214 := eq_true p214
              replace q214 := eq_true q214
              have p215 : 0 ≤ ((rd (rd_L1 l0_1 x11_1) 0) : Int) := odt_ (by assumption)
              have q215 : (rd (rd_L1 l0_1 x11_1) 0) < (l1_0.length : Int) := odt_ (by assumption)
              obtain ⟨ad215, e215, hx215_0⟩ := Kd.at_bool HR1_0.out (rd (rd_L1 l0_1 x11_1) 0) p215 q215
              cases e215
              try replace hx215_0 := (HB.out.cell (World.block_lt_of_cell? w _ hx215_0)).trans hx215_0
              replace p215 := eq_true p215
              replace q215 := eq_true q215
              have p216 : 0 ≤ (1 : Int) := (by omega)
              have q216 : 1 < ((rd_L1 l0_1 x11_1).length : Int) := odt_ (by assumption)
              obtain ⟨ad216, e216, hx216_0⟩ := Kd.at_int HR213_0.out 1 p216 q216
              obtain rfl : ad214 = ad216 := (by injection e216)
              (try simp only [show (1 : Int).toNat = 1 from rfl, Nat.reduceMul, Nat.reduceEqDiff, Go.Addr.add, ↓reduceIte] at hx216_0)
              have qi216 : (1 < (rd_L1 l0_1 x11_1).length) = True := eq_true (by omega)
              (try rw [show ((1 : Int)).toNat = 1 from rfl] at hx216_0)
              try replace hx216_0 := (HB.out.cell (World.block_lt_of_cell? w _ hx216_0)).trans hx216_0
              replace p216 := eq_true p216
              replace q216 := eq_true q216
              have p217 : 0 ≤ ((rd (rd_L1 l0_1 x11_1) 1) : Int) := odt_ (by assumption)
              have q217 : (rd (rd_L1 l0_1 x11_1) 1) < (l1_0.length : Int) := odt_ (by assumption)
              obtain ⟨ad217, e217, hx217_0⟩ := Kd.at_bool HR1_0.out (rd (rd_L1 l0_1 x11_1) 1) p217 q217
              obtain rfl : ad215 = ad217 := (by injection e217)
              try replace hx217_0 := (HB.out.cell (World.block_lt_of_cell? w _ hx217_0)).trans hx217_0
              replace p217 := eq_true p217
              replace q217 := eq_true q217
              go_wp2
              repeat (go_quiet (fail); try go_wp2)
              go_roundg k1
              case measure => have := HK1.out; omega
              case rel => exact ⟨(x5_1), (wrap64 (x11_1 + 1)), (ry_), H', ⟨by have := HK1.out; omega⟩, ⟨Kd.pS HO_5.out⟩, ⟨pk BK211.out⟩, ⟨pk BK212.out⟩, ⟨by repeat (first | exact HB.out | apply ba_ | apply bN_ | apply b1_ | refine below_set ?_ (Aside0.out (by assumption)))⟩⟩
            ·
             rw [if_neg c16] at H
             exact absurd H (by simp)
           ·
            rw [if_neg c15] at H
            exact absurd H (by simp)
          ·
           rw [if_neg c14] at H
           exact absurd H (by simp)
         ·
          rw [if_neg c13] at H
          have c13b0 : ((rdOf false l1_0 (rd (rd_L1 l0_1 x11_1) 0)) != a1_1) = false := by simpa using c13
          (try (have c13b1 : decide ((rdOf false l1_0 (rd (rd_L1 l0_1 x11_1) 0)) = a1_1) = true := by simpa using c13))
          (try (have c13b2 : ((rdOf false l1_0 (rd (rd_L1 l0_1 x11_1) 0)) == a1_1) = true := by simpa using c13))
          clear c13
          have H' := ak_ H
          clear H
          have p213 : 0 ≤ (x11_1 : Int) := odt_ (by assumption)
          have q213 : x11_1 < (l0_1.length : Int) := odt_ (by assumption)
          obtain ⟨ad213, A213_0, c213_0, e213, hx213_0, hl213_0, hi213_0⟩ := at_L1 HR0_1.out x11_1 p213 q213
          cases e213
          try replace hx213_0 := (HB.out.cell (World.block_lt_of_cell? w _ hx213_0)).trans hx213_0
          have HR213_0 := ak_ hi213_0
          have HC213_0 := ak_ hl213_0
          clear hi213_0 hl213_0
          replace p213 := eq_true p213
          replace q213 := eq_true q213
          have hnb27 := NB212_211.out
          have hnc27 := NB211_212.out
          obtain ⟨hcz28_0, hcz28_1, hfz28_0, hfz28_1⟩ := c2_ BK212.out
          have p214 : 0 ≤ (0 : Int) := (by omega)
          have q214 : 0 < ((rd_L1 l0_1 x11_1).length : Int) := odt_ (by assumption)
          obtain ⟨ad214, e214, hx214_0⟩ := Kd.at_int HR213_0.out 0 p214 q214
          cases e214
          have qi214 : (0 < (rd_L1 l0_1 x11_1).length) = True := eq_true (by omega)
          (try rw [show ((0 : Int)).toNat = 0 from rfl] at hx214_0)
          (try rw [Addr.add_zero'] at hx214_0)
          try replace hx214_0 := (HB.out.cell (World.block_lt_of_cell? w _ hx214_0)).trans hx214_0
          replace p214 := eq_true p214
          replace q214 := eq_true q214
          have p215 : 0 ≤ ((rd (rd_L1 l0_1 x11_1) 0) : Int) := odt_ (by assumption)
          have q215 : (rd (rd_L1 l0_1 x11_1) 0) < (l1_0.length : Int) := odt_ (by assumption)
          obtain ⟨ad215, e215, hx215_0⟩ := Kd.at_bool HR1_0.out (rd (rd_L1 l0_1 x11_1) 0) p215 q215
          cases e215
          try replace hx215_0 := (HB.out.cell (World.block_lt_of_cell? w _ hx215_0)).trans hx215_0
          replace p215 := eq_true p215
          replace q215 := eq_true q215
          go_wp2
          repeat (go_quiet (fail); try go_wp2)
          go_roundg k1
          case measure => have := HK1.out; omega
          case rel => exact ⟨(x5_1), (wrap64 (x11_1 + 1)), (ry_), H', ⟨by have := HK1.out; omega⟩, ⟨Kd.pS HO_5.out⟩, ⟨pk BK211.out⟩, ⟨pk BK212.out⟩, ⟨by repeat (first | exact HB.out | apply ba_ | apply bN_ | apply b1_ | refine below_set ?_ (Aside0.out (by assumption)))⟩⟩
        ·
         rw [if_neg c12] at H
         exact absurd H (by simp)
       ·
        rw [if_neg c11] at H
        exact absurd H (by simp)
      ·
       rw [if_neg c10] at H
       exact absurd H (by simp)
     ·
      rw [if_neg c9] at H
      exact absurd H (by simp)
    ·
     rw [if_neg c8] at H
     exact absurd H (by simp)
   ·
    rw [if_neg c7] at H
    have c7b0 : decide (x11_1 < (l0_1.length : Int)) = false := decide_eq_false c7
    clear c7
    obtain rfl := Option.some.inj H
    go_wp2
    repeat (go_quiet (fail); try go_wp2)
    go_ret
    exact ⟨_, rx_, by (with_reducible repeat (first | apply Kd.S_alloc | apply Kd.S_drewN | apply Kd.S_drew)); exact HO_5.out, by repeat (first | exact HB.out | apply ba_ | apply bN_ | apply b1_ | refine below_set ?_ (Aside0.out (by assumption)))⟩
mutual
def spec_keCan.j0 : Nat → List Int → Bool → Int → List (List Int) → Int → List Bool → Bool → Option (Bool)
 | 0, _, _, _, _, _, _, _ => none
 | k + 1, x2, x21, x225000, x225001, x225002, x226000, x226001 => if x21 = true then (some false) else (spec_keCan.l0 k x2 x2 (x2.length : Int) 0 x225000 x225001 x225002 x226000 x226001)
def spec_keCan.l0 : Nat → List Int → List Int → Int → Int → Int → List (List Int) → Int → List Bool → Bool → Option (Bool)
 | 0, _, _, _, _, _, _, _, _, _ => none
 | k + 1, x2, x22, x23, x24, x225000, x225001, x225002, x226000, x226001 => if x24 < x23 then (if 0 ≤ x24 then (if x24 < (x22.length : Int) then (if 0 ≤ (rd x22 x24) then (if (rd x22 x24) < (x226000.length : Int) then (if ((rdOf false x226000 (rd x22 x24)) != x226001) = true then (some false) else (spec_keCan.l0 k x2 x22 x23 (wrap64 (x24 + 1)) x225000 x225001 x225002 x226000 x226001)) else (none)) else (none)) else (none)) else (none)) else ((spec_keRide.f k x226000 x226001 x2).bind fun bt229 => ((spec_keNow.f k x225000 x225001 x225002 bt229.1 bt229.2).bind fun t233 => (some ((t233.length : Int) == 0))))
end
def spec_keCan.f (k : Nat) (a0_0 : Int) (l0_1 : List (List Int)) (a0_2 : Int) (l1_0 : List Bool) (a1_1 : Bool) (l2 : List Int) : Option (Bool) := if (l2.length : Int) > a0_2 then (spec_keCan.j0 k l2 true a0_0 l0_1 a0_2 l1_0 a1_1) else ((spec_l1Rising.f k l2 0 (wrap64 (a0_0 - 1))).bind fun t226 => (spec_keCan.j0 k l2 (!t226) a0_0 l0_1 a0_2 l1_0 a1_1))
theorem spec_keCan.mono_l : ∀ k, (∀ y0 y1 y2 y3 y4 y5 y6, LeO (spec_keCan.j0 k y0 y1 y2 y3 y4 y5 y6) (spec_keCan.j0 (k + 1) y0 y1 y2 y3 y4 y5 y6)) ∧ (∀ y0 y1 y2 y3 y4 y5 y6 y7 y8, LeO (spec_keCan.l0 k y0 y1 y2 y3 y4 y5 y6 y7 y8) (spec_keCan.l0 (k + 1) y0 y1 y2 y3 y4 y5 y6 y7 y8))
 | 0 => ⟨fun _ _ _ _ _ _ _ r h => by simp [spec_keCan.j0] at h, fun _ _ _ _ _ _ _ _ _ r h => by simp [spec_keCan.l0] at h⟩
 | k + 1 => by
  obtain ⟨ih0, ih1⟩ := spec_keCan.mono_l k
  refine ⟨?_, ?_⟩
  ·intro y0 y1 y2 y3 y4 y5 y6
   unfold spec_keCan.j0
   repeat' first
   | (with_reducible first | exact ih0 _ _ _ _ _ _ _ | exact ih1 _ _ _ _ _ _ _ _ _ | exact spec_keNow.mono _ _ _ _ _ _ | exact spec_keRide.mono _ _ _ _ | exact spec_l1Rising.mono _ _ _ _ | exact LeO.refl _ | exact LeO.none _ | refine LeO.ite ?_ ?_ | refine LeO.bind ?_ (fun _ => ?_))
  ·intro y0 y1 y2 y3 y4 y5 y6 y7 y8
   unfold spec_keCan.l0
   repeat' first
   | (with_reducible first | exact ih0 _ _ _ _ _ _ _ | exact ih1 _ _ _ _ _ _ _ _ _ | exact spec_keNow.mono _ _ _ _ _ _ | exact spec_keRide.mono _ _ _ _ | exact spec_l1Rising.mono _ _ _ _ | exact LeO.refl _ | exact LeO.none _ | refine LeO.ite ?_ ?_ | refine LeO.bind ?_ (fun _ => ?_))
theorem spec_keCan.mono : ∀ a0 a1 a2 a3 a4 a5 k, LeO (spec_keCan.f k a0 a1 a2 a3 a4 a5) (spec_keCan.f (k + 1) a0 a1 a2 a3 a4 a5) := by
 intro a0 a1 a2 a3 a4 a5 k
 obtain ⟨ih0, ih1⟩ := spec_keCan.mono_l k
 unfold spec_keCan.f
 repeat' first
  | (with_reducible first | exact ih0 _ _ _ _ _ _ _ | exact ih1 _ _ _ _ _ _ _ _ _ | exact spec_keNow.mono _ _ _ _ _ _ | exact spec_keRide.mono _ _ _ _ | exact spec_l1Rising.mono _ _ _ _ | exact LeO.refl _ | exact LeO.none _ | refine LeO.ite ?_ ?_ | refine LeO.bind ?_ (fun _ => ?_))
def spec_keCan.T6 : Bool × List (List Nat × List Nat) := (true, [([], []), ([0], [0]), ([], []), ([1, 2], [1, 2]), ([3], [3]), ([], []), ([5], [5]), ([4, 6], [4, 6])])
def spec_keCan.B6 : List Nat := [0, 1, 0, 7, 15, 0, 32, 127]
theorem spec_keCan.tab6 : rtab .any (opsOf Try.f110 6) = spec_keCan.T6 := by kernel_rfl
theorem spec_keCan.bits6 : waitsOk spec_keCan.T6.2 spec_keCan.B6 = true := by kernel_rfl
def spec_keCan.T9 : Bool × List (List Nat × List Nat) := (true, [([], []), ([], []), ([], []), ([1, 2], [1, 2]), ([0, 3, 3], [0, 3]), ([4], [4]), ([5], [5]), ([6, 4, 0, 1, 2, 3, 4, 5, 6], [6])])
def spec_keCan.B9 : List Nat := [0, 0, 0, 6, 15, 31, 63, 127]
theorem spec_keCan.tab9 : rtab .any (opsOf Try.f110 9) = spec_keCan.T9 := by kernel_rfl
theorem spec_keCan.bits9 : waitsOk spec_keCan.T9.2 spec_keCan.B9 = true := by kernel_rfl
theorem spec_keCan.calls (k : Nat) (a0_0 : Int) (A0_1 : Option Addr) (c0_1 : Nat) (l0_1 : List (List Int)) (a0_2 : Int) (A1_0 : Option Addr) (c1_0 : Nat) (l1_0 : List Bool) (a1_1 : Bool) (A2 : Option Addr) (c2 : Nat) (l2 : List Int) (r : Bool) (w : World) (hr0_1 : Kd.C (Kd.slice 3 (Kd.int .i64)) w A0_1 l0_1.length l0_1) (hc0_1 : l0_1.length ≤ c0_1) (hr1_0 : Kd.C Kd.bool w A1_0 l1_0.length l1_0) (hc1_0 : l1_0.length ≤ c1_0) (hr2 : Kd.C (Kd.int .i64) w A2 l2.length l2) (hc2 : l2.length ≤ c2) (h : spec_keCan.f k a0_0 l0_1 a0_2 l1_0 a1_1 l2 = some r) :
  Calls Try.prog 110 #[.agg #[.int .i64 a0_0, .slice A0_1 l0_1.length c0_1, .int .i64 a0_2], .agg #[.slice A1_0 l1_0.length c1_0, .bool a1_1], .slice A2 l2.length c2] w fun e w' => e = .returned (.bool r) ∧ Below w.heap.size w w' := by
 have hu52 := Try.underlying52
 have hu90 := Try.underlying90
 have HR0_1 := ak_ hr0_1
 have HC0_1 := ak_ hc0_1
 clear hr0_1 hc0_1
 have HR1_0 := ak_ hr1_0
 have HC1_0 := ak_ hc1_0
 clear hr1_0 hc1_0
 have HR2 := ak_ hr2
 have HC2 := ak_ hc2
 clear hr2 hc2
 have HB := ak_ (Below.refl w.heap.size w)
 have H : (if (l2.length : Int) > a0_2 then (spec_keCan.j0 k l2 true a0_0 l0_1 a0_2 l1_0 a1_1) else ((spec_l1Rising.f k l2 0 (wrap64 (a0_0 - 1))).bind fun t226 => (spec_keCan.j0 k l2 (!t226) a0_0 l0_1 a0_2 l1_0 a1_1))) = some r := h
 clear h
 have HC4 := ak_ H
 clear H
 go_enter Try.func110, Try.ntmps110
 go_upto_region 1 with (first | ((with_reducible refine gate_dst (N := 3) rfl ?_); refine bx_ 3 #[.int .i64 a0_0, .slice A0_1 l0_1.length c0_1, .int .i64 a0_2] 52 ?_; intro gb224 hg w5 hbox hb; have n0_ := ak_ (bs_ (bb_ HB.out) hb); have n1_ := ak_ (hbox); have n2_ := ak_ ((by rw [hg]; exact (bz_ (bb_ HB.out)) : w.heap.size ≤ gb224)); have n3_ := n2_; clear HB; have HB := n0_; have BK224 := n1_; have GW224 := n2_; have GE224 := n3_; clear n0_ n1_ n2_ n3_; clear hb hbox hg) | ((with_reducible refine gate_dst (N := 4) rfl ?_); refine bx_ 4 #[.slice A1_0 l1_0.length c1_0, .bool a1_1] 90 ?_; intro gb225 hg w6 hbox hb; have n0_ := ak_ (blk_below (pk BK224.out) hb); have n1_ := ak_ (bs_ bl_ hb); have n2_ := ak_ (hbox); have n3_ := ak_ ((by rw [hg]; exact (bz_ bl_) : w.heap.size ≤ gb225)); have n4_ := n3_; have n5_ := ak_ ((by rw [hg]; exact Nat.ne_of_lt (blk_lt (pk BK224.out)) : gb224 ≠ gb225)); have n6_ := ak_ n5_.out.symm; clear BK224; clear HB; have BK224 := n0_; have HB := n1_; have BK225 := n2_; have GW225 := n3_; have GE225 := n4_; have NB224_225 := n5_; have NB225_224 := n6_; clear n0_ n1_ n2_ n3_ n4_ n5_ n6_; clear hb hbox hg))
 (try simp only [Act.put, setIfInBounds_toArray, set_cons_zero, set_cons_succ])
 go_cut [21] (fun v21 wc => ∃ (kq : Nat) (x21_3 : Bool), v21 = .bool x21_3 ∧ Aside0 (spec_keCan.j0 kq l2 x21_3 a0_0 l0_1 a0_2 l1_0 a1_1 = some r) ∧ Aside0 (kq ≤ k) ∧ Aside0 (wc.heap[gb224]? = some (.cells #[.int .i64 a0_0, (.slice A0_1 l0_1.length c0_1), .int .i64 a0_2] 52 (0, 0))) ∧ Aside0 (wc.heap[gb225]? = some (.cells #[(.slice A1_0 l1_0.length c1_0), .bool a1_1] 90 (0, 0))) ∧ Aside0 (Below w.heap.size w wc))
 case first =>
  have H := HC4.out
  clear HC4
  by_cases c7 : (l2.length : Int) > a0_2
  ·
   rw [if_pos c7] at H
   have c7b0 : decide (a0_2 < (l2.length : Int)) = true := decide_eq_true c7
   clear c7
   (first | rw [c7b0] | (simp only [i64_w, i32_w]; rw [c7b0]) | rw [c7b1] | skip)
   have H' := ak_ H
   clear H
   have hnb8 := NB224_225.out
   have hnc8 := NB225_224.out
   obtain ⟨hcz9_0, hcz9_1, hcz9_2, hfz9_0, hfz9_1, hfz9_2⟩ := c3_ BK224.out
   go_wp2
   go_meet
   case rel => exact ⟨_, (true), (ry_), H', ⟨by first | omega | exact Nat.le_refl _⟩, ⟨pk BK224.out⟩, ⟨pk BK225.out⟩, ⟨by repeat (first | exact HB.out | apply ba_ | apply bN_ | apply b1_ | refine below_set ?_ (Aside0.out (by assumption)))⟩⟩
  ·
   rw [if_neg c7] at H
   have c7b0 : decide (a0_2 < (l2.length : Int)) = false := decide_eq_false c7
   clear c7
   (first | rw [c7b0] | (simp only [i64_w, i32_w]; rw [c7b0]) | rw [c7b1] | skip)
   replace H := Option.bind_eq_some_iff.mp H
   obtain ⟨t226, A100, H⟩ := H
   replace H : (spec_keCan.j0 k l2 (!t226) a0_0 l0_1 a0_2 l1_0 a1_1) = some r := H
   have A10 := ak_ A100
   clear A100
   have H' := ak_ H
   clear H
   have hnb11 := NB224_225.out
   have hnc11 := NB225_224.out
   obtain ⟨hcz12_0, hcz12_1, hcz12_2, hfz12_0, hfz12_1, hfz12_2⟩ := c3_ BK224.out
   go_wp2_with (first | (go_at_call 103; (with_reducible refine (spec_l1Rising.calls k _ _ l2 0 (wrap64 (a0_0 - 1)) t226 _ ?side1 ?side2 A10.out).mono ?_); (case side1 => exact cs_ (Kd.C_below HR2.out HB.out)); (case side2 => exact HC2.out); rintro e w' ⟨rfl, ⟨nd, rfl⟩⟩))
   go_meet
   case rel => exact ⟨_, (!t226), (ry_), H', ⟨by first | omega | exact Nat.le_refl _⟩, ⟨pk BK224.out⟩, ⟨pk BK225.out⟩, ⟨by repeat (first | exact HB.out | apply ba_ | apply bN_ | apply b1_ | refine below_set ?_ (Aside0.out (by assumption)))⟩⟩
 case rest =>
  clear HC4
  try clear c1
  try clear c2
  try clear p2
  try clear p6
  try clear c7
  try clear c7b0
  try clear c8
  try clear c11
  try clear hcz12_0
  try clear hcz12_1
  try clear hcz12_2
  try clear hcz9_0
  try clear hcz9_1
  try clear hcz9_2
  try clear hfz12_0
  try clear hfz12_1
  try clear hfz12_2
  try clear hfz9_0
  try clear hfz9_1
  try clear hfz9_2
  obtain ⟨kq, x21_3, rfl, HA, HJ3, BK224, BK225, HB⟩ := hcut
  cases kq with
  | zero => exact absurd HA.out (by simp [spec_keCan.j0])
  | succ kj3 =>
   have H := HA.out
   clear HA
   simp only [spec_keCan.j0] at H
   by_cases c13 : x21_3 = true
   ·
    subst c13
    have H1 : (some false) = some r := by rw [if_pos rfl] at H; exact H
    clear H
    have H := H1
    clear H1
    obtain rfl := Option.some.inj H
    go_wp2
    go_ret
    exact ⟨rx_, by repeat (first | exact HB.out | apply ba_ | apply bN_ | apply b1_ | refine below_set ?_ (Aside0.out (by assumption)))⟩
   ·
    replace c13 := Bool.eq_false_iff.mpr c13
    subst c13
    have H1 : (spec_keCan.l0 kj3 l2 l2 (l2.length : Int) 0 a0_0 l0_1 a0_2 l1_0 a1_1) = some r := by rw [if_neg (show ¬ (false = true) by decide)] at H; exact H
    clear H
    have H := H1
    clear H1
    have H' := ak_ H
    clear H
    go_wp2
    go_loopg [24] kj3 (fun kq v24 w' => ∃ (x24_2 : Int), v24 = .int .i64 x24_2 ∧ Aside0 (spec_keCan.l0 kq l2 l2 (l2.length : Int) x24_2 a0_0 l0_1 a0_2 l1_0 a1_1 = some r) ∧ Aside0 (kq ≤ kj3) ∧ Aside0 (w'.heap[gb224]? = some (.cells #[.int .i64 a0_0, (.slice A0_1 l0_1.length c0_1), .int .i64 a0_2] 52 (0, 0))) ∧ Aside0 (w'.heap[gb225]? = some (.cells #[(.slice A1_0 l1_0.length c1_0), .bool a1_1] 90 (0, 0))) ∧ Aside0 (Below w.heap.size w w'))
    case atStart => exact ⟨(0), (ry_), H', ⟨Nat.le_refl _⟩, ⟨pk BK224.out⟩, ⟨pk BK225.out⟩, ⟨by repeat (first | exact HB.out | apply ba_ | apply bN_ | apply b1_ | refine below_set ?_ (Aside0.out (by assumption)))⟩⟩
    case round =>
     clear H'
     try clear c1
     try clear c2
     try clear p2
     try clear p6
     try clear c7
     try clear c7b0
     try clear c8
     try clear c11
     try clear c13
     try clear hcz12_0
     try clear hcz12_1
     try clear hcz12_2
     try clear hcz9_0
     try clear hcz9_1
     try clear hcz9_2
     try clear hfz12_0
     try clear hfz12_1
     try clear hfz12_2
     try clear hfz9_0
     try clear hfz9_1
     try clear hfz9_2
     try clear p2
     try clear p6
     obtain ⟨x24_2, rfl, HA, HK2, BK224, BK225, HB⟩ := hrel
     cases gk with
     | zero => exact absurd HA.out (by simp [spec_keCan.l0])
     | succ k2 =>
      have H := HA.out
      clear HA
      simp only [spec_keCan.l0] at H
      by_cases c14 : x24_2 < (l2.length : Int)
      ·
       rw [if_pos c14] at H
       have c14b0 : decide (x24_2 < (l2.length : Int)) = true := decide_eq_true c14
       clear c14
       by_cases c15 : 0 ≤ x24_2
       ·
        rw [if_pos c15] at H
        have c15b0 : decide (0 ≤ x24_2) = true := decide_eq_true c15
        clear c15
        by_cases c16 : x24_2 < (l2.length : Int)
        ·
         rw [if_pos c16] at H
         have c16b0 : decide (x24_2 < (l2.length : Int)) = true := decide_eq_true c16
         clear c16
         by_cases c17 : 0 ≤ (rd l2 x24_2)
         ·
          rw [if_pos c17] at H
          have c17b0 : decide (0 ≤ (rd l2 x24_2)) = true := decide_eq_true c17
          clear c17
          by_cases c18 : (rd l2 x24_2) < (l1_0.length : Int)
          ·
           rw [if_pos c18] at H
           have c18b0 : decide ((rd l2 x24_2) < (l1_0.length : Int)) = true := decide_eq_true c18
           clear c18
           by_cases c19 : ((rdOf false l1_0 (rd l2 x24_2)) != a1_1) = true
           ·
            rw [if_pos c19] at H
            have c19b0 : ((rdOf false l1_0 (rd l2 x24_2)) != a1_1) = true := c19
            (try (have c19b1 : decide ((rdOf false l1_0 (rd l2 x24_2)) = a1_1) = false := by simpa using c19))
            (try (have c19b2 : ((rdOf false l1_0 (rd l2 x24_2)) == a1_1) = false := by simpa using c19))
            (try (have c19b3 : ¬ ((rdOf false l1_0 (rd l2 x24_2)) = a1_1) := by simpa using c19))
            clear c19
            obtain rfl := Option.some.inj H
            have p227 : 0 ≤ (x24_2 : Int) := odt_ (by assumption)
            have q227 : x24_2 < (l2.length : Int) := odt_ (by assumption)
            obtain ⟨ad227, e227, hx227_0⟩ := Kd.at_int HR2.out x24_2 p227 q227
            cases e227
            try replace hx227_0 := (HB.out.cell (World.block_lt_of_cell? w _ hx227_0)).trans hx227_0
            replace p227 := eq_true p227
            replace q227 := eq_true q227
            try go_wp2
            have n0_ := ak_ (k1_ BK224.out)
            have n1_ := ak_ (k1_ BK225.out)
            have n2_ := ak_ (b1_ HB.out)
            clear BK224 BK225 HB
            have BK224 := n0_; have BK225 := n1_; have HB := n2_
            clear n0_ n1_ n2_
            have p228 : 0 ≤ ((rd l2 x24_2) : Int) := odt_ (by assumption)
            have q228 : (rd l2 x24_2) < (l1_0.length : Int) := odt_ (by assumption)
            obtain ⟨ad228, e228, hx228_0⟩ := Kd.at_bool HR1_0.out (rd l2 x24_2) p228 q228
            have hw228_0 := hx228_0
            cases e228
            try replace hx228_0 := (HB.out.cell (World.block_lt_of_cell? w _ hx228_0)).trans hx228_0
            replace p228 := eq_true p228
            replace q228 := eq_true q228
            refine start_ (n := 8) (S := fun w' => w'.cell? ⟨gb225, 0, none⟩ = some (.slice (some ad228) l1_0.length c1_0) ∧ w'.cell? ⟨gb225, 1, none⟩ = some (.bool a1_1) ∧ w'.cell? (ad228.add ((rd l2 x24_2)).toNat) = some (.bool (rdOf false l1_0 (rd l2 x24_2)))) (ds := []) (mb_ 8 0) (by kernel_rfl) rfl rfl ⟨(blk_cell BK225.out 0).trans rfl, (blk_cell BK225.out 1).trans rfl, ((HB.out.cell (World.block_lt_of_cell? w _ hw228_0)).trans hw228_0)⟩ (fun hHeld => ?_); refine with_tabW spec_keCan.tab6 spec_keCan.bits6 (fun HT_ HW_ => ?_)
            generalize wr.drew = w20 at BK224 BK225 HB hx228_0 hHeld ⊢
            refine pu_ 0 28 8 1 ?_
            refine pu_ 2 30 8 5 ?_
            refine pu_ 5 33 8 37 ?_
            refine tk_ 1 29 8 39 ?_ (hy := by rintro w' ⟨s0, s1, s2⟩; go_simp; with_reducible rfl)
            refine pu_ 3 31 8 47 ?_
            refine tk_ 4 32 8 63 ?_ (hy := by rintro w' ⟨s0, s1, s2⟩; go_simp; with_reducible rfl)
            refine tk_ 6 34 8 127 ?_ (hy := by rintro w' ⟨s0, s1, s2⟩; go_simp; with_reducible rfl)
            refine pu_ 7 35 8 255 ?_
            refine done_ (done_of HT_.out (by kernel_rfl)) ?_
            try go_wp2
            go_ret
            exact ⟨rx_, by repeat (first | exact HB.out | apply ba_ | apply bN_ | apply b1_ | refine below_set ?_ (Aside0.out (by assumption)))⟩
           ·
            rw [if_neg c19] at H
            have c19b0 : ((rdOf false l1_0 (rd l2 x24_2)) != a1_1) = false := by simpa using c19
            (try (have c19b1 : decide ((rdOf false l1_0 (rd l2 x24_2)) = a1_1) = true := by simpa using c19))
            (try (have c19b2 : ((rdOf false l1_0 (rd l2 x24_2)) == a1_1) = true := by simpa using c19))
            clear c19
            have H' := ak_ H
            clear H
            have p227 : 0 ≤ (x24_2 : Int) := odt_ (by assumption)
            have q227 : x24_2 < (l2.length : Int) := odt_ (by assumption)
            obtain ⟨ad227, e227, hx227_0⟩ := Kd.at_int HR2.out x24_2 p227 q227
            cases e227
            try replace hx227_0 := (HB.out.cell (World.block_lt_of_cell? w _ hx227_0)).trans hx227_0
            replace p227 := eq_true p227
            replace q227 := eq_true q227
            try go_wp2
            have n0_ := ak_ (k1_ BK224.out)
            have n1_ := ak_ (k1_ BK225.out)
            have n2_ := ak_ (b1_ HB.out)
            clear BK224 BK225 HB
            have BK224 := n0_; have BK225 := n1_; have HB := n2_
            clear n0_ n1_ n2_
            have p228 : 0 ≤ ((rd l2 x24_2) : Int) := odt_ (by assumption)
            have q228 : (rd l2 x24_2) < (l1_0.length : Int) := odt_ (by assumption)
            obtain ⟨ad228, e228, hx228_0⟩ := Kd.at_bool HR1_0.out (rd l2 x24_2) p228 q228
            have hw228_0 := hx228_0
            cases e228
            try replace hx228_0 := (HB.out.cell (World.block_lt_of_cell? w _ hx228_0)).trans hx228_0
            replace p228 := eq_true p228
            replace q228 := eq_true q228
            refine start_ (n := 8) (S := fun w' => w'.cell? ⟨gb225, 0, none⟩ = some (.slice (some ad228) l1_0.length c1_0) ∧ w'.cell? ⟨gb225, 1, none⟩ = some (.bool a1_1) ∧ w'.cell? (ad228.add ((rd l2 x24_2)).toNat) = some (.bool (rdOf false l1_0 (rd l2 x24_2)))) (ds := []) (mb_ 8 0) (by kernel_rfl) rfl rfl ⟨(blk_cell BK225.out 0).trans rfl, (blk_cell BK225.out 1).trans rfl, ((HB.out.cell (World.block_lt_of_cell? w _ hw228_0)).trans hw228_0)⟩ (fun hHeld => ?_); refine with_tabW spec_keCan.tab6 spec_keCan.bits6 (fun HT_ HW_ => ?_)
            generalize wr.drew = w21 at BK224 BK225 HB hx228_0 hHeld ⊢
            refine pu_ 0 28 8 1 ?_
            refine pu_ 2 30 8 5 ?_
            refine pu_ 5 33 8 37 ?_
            refine tk_ 1 29 8 39 ?_ (hy := by rintro w' ⟨s0, s1, s2⟩; go_simp; with_reducible rfl)
            refine pu_ 3 31 8 47 ?_
            refine tk_ 4 32 8 63 ?_ (hy := by rintro w' ⟨s0, s1, s2⟩; go_simp; with_reducible rfl)
            refine tk_ 6 34 8 127 ?_ (hy := by rintro w' ⟨s0, s1, s2⟩; go_simp; with_reducible rfl)
            refine pu_ 7 35 8 255 ?_
            refine done_ (done_of HT_.out (by kernel_rfl)) ?_
            try go_wp2
            go_roundg k2
            case measure => have := HJ3.out; have := HK2.out; omega
            case rel => exact ⟨(wrap64 (x24_2 + 1)), (ry_), H', ⟨by have := HJ3.out; have := HK2.out; omega⟩, ⟨pk BK224.out⟩, ⟨pk BK225.out⟩, ⟨by repeat (first | exact HB.out | apply ba_ | apply bN_ | apply b1_ | refine below_set ?_ (Aside0.out (by assumption)))⟩⟩
          ·
           rw [if_neg c18] at H
           exact absurd H (by simp)
         ·
          rw [if_neg c17] at H
          exact absurd H (by simp)
        ·
         rw [if_neg c16] at H
         exact absurd H (by simp)
       ·
        rw [if_neg c15] at H
        exact absurd H (by simp)
      ·
       rw [if_neg c14] at H
       have c14b0 : decide (x24_2 < (l2.length : Int)) = false := decide_eq_false c14
       clear c14
       replace H := Option.bind_eq_some_iff.mp H
       obtain ⟨⟨t229, t232⟩, A220, H⟩ := H
       replace H : ((spec_keNow.f k2 a0_0 l0_1 a0_2 t229 t232).bind fun t233 => (some ((t233.length : Int) == 0))) = some r := H
       have A22 := ak_ A220
       clear A220
       replace H := Option.bind_eq_some_iff.mp H
       obtain ⟨t233, A230, H⟩ := H
       replace H : (some ((t233.length : Int) == 0)) = some r := H
       have A23 := ak_ A230
       clear A230
       obtain rfl := Option.some.inj H
       try go_wp2
       have n0_ := ak_ (k1_ BK224.out)
       have n1_ := ak_ (k1_ BK225.out)
       have n2_ := ak_ (b1_ HB.out)
       clear BK224 BK225 HB
       have BK224 := n0_; have BK225 := n1_; have HB := n2_
       clear n0_ n1_ n2_
       refine start_ (n := 8) (S := fun w' => w'.cell? ⟨gb224, 0, none⟩ = some (.int .i64 a0_0) ∧ w'.cell? ⟨gb224, 1, none⟩ = some (.slice A0_1 l0_1.length c0_1) ∧ w'.cell? ⟨gb224, 2, none⟩ = some (.int .i64 a0_2) ∧ w'.cell? ⟨gb225, 0, none⟩ = some (.slice A1_0 l1_0.length c1_0) ∧ w'.cell? ⟨gb225, 1, none⟩ = some (.bool a1_1)) (ds := []) (mb_ 8 0) (by kernel_rfl) rfl rfl ⟨(blk_cell BK224.out 0).trans rfl, (blk_cell BK224.out 1).trans rfl, (blk_cell BK224.out 2).trans rfl, (blk_cell BK225.out 0).trans rfl, (blk_cell BK225.out 1).trans rfl⟩ (fun hHeld => ?_); refine with_tabW spec_keCan.tab9 spec_keCan.bits9 (fun HT_ HW_ => ?_)
       generalize wr.drew = w24 at BK224 BK225 HB hHeld ⊢
       refine pu_ 2 39 8 4 ?_
       refine tk_ 0 37 8 5 ?_ (hy := by rintro w' ⟨s0, s1, s2, s3, s4⟩; go_simp; with_reducible rfl)
       refine tk_ 1 38 8 7 ?_ (hy := by rintro w' ⟨s0, s1, s2, s3, s4⟩; go_simp; with_reducible rfl)
       refine on_ 3 40 8 15 (fun K hK => ?_)
       refine goes_ Try.func75 (by kernel_rfl) rfl #[.agg #[.slice A1_0 l1_0.length c1_0, .bool a1_1], .slice A2 l2.length c2] (by rfl) rfl rfl (by first | rfl | (simp only [map_toArray, map_cons, map_nil]; try rfl)) ?_
       with_reducible refine (spec_keRide.calls k2 _ _ l1_0 a1_1 _ _ l2 t229 t232 _ ?side1 ?side2 ?side3 ?side4 A22.out).mono ?_
       (case side1 => exact cs_ (Kd.C_below HR1_0.out HB.out))
       (case side2 => exact HC1_0.out)
       (case side3 => exact cs_ (Kd.C_below HR2.out HB.out))
       (case side4 => exact HC2.out)
       rintro e w25 ⟨v230, rfl, ho0, hb⟩
       refine ⟨_, rfl, ?_⟩
       have n0_ := ak_ (Kd.R_lower ho0 (bz_ bl_))
       have n1_ := ak_ (blk_below (pk BK224.out) hb)
       have n2_ := ak_ (blk_below (pk BK225.out) hb)
       have n3_ := ak_ (bs_ bl_ hb)
       clear BK224 BK225 HB
       have HO231 := n0_; have BK224 := n1_; have BK225 := n2_; have HB := n3_
       clear n0_ n1_ n2_ n3_
       (try clear hb)
       (try clear hb2)
       (try clear hk)
       (try clear hi)
       (try clear ho0)
       obtain ⟨Ao26, co26, eo26⟩ := Kd.R_slice HO231.out
       (first | subst eo26 | (injection eo26 with f1_ f2_ f3_; have f4_ := f1_.symm; have f5_ := f3_.symm; clear f1_ f2_ f3_; subst f4_; subst f5_))
       refine hK.out _ _ ⟨(blk_cell BK224.out 0).trans rfl, (blk_cell BK224.out 1).trans rfl, (blk_cell BK224.out 2).trans rfl, (blk_cell BK225.out 0).trans rfl, (blk_cell BK225.out 1).trans rfl⟩ (fun hHeld => ?_)
       clear hK K
       refine nm_ ?_
       refine on_ 4 41 8 31 (fun K hK => ?_)
       refine goes_ Try.func145 (by kernel_rfl) rfl #[.agg #[.int .i64 a0_0, .slice A0_1 l0_1.length c0_1, .int .i64 a0_2], .agg #[.slice Ao26 t229.length co26, .bool t232]] (by rfl) rfl rfl (by first | rfl | (simp only [map_toArray, map_cons, map_nil]; try rfl)) ?_
       with_reducible refine (spec_keNow.calls k2 a0_0 _ _ l0_1 a0_2 _ _ t229 t232 t233 _ ?side1 ?side2 ?side3 ?side4 A23.out).mono ?_
       (case side1 => exact cs_ (Kd.C_below HR0_1.out HB.out))
       (case side2 => exact HC0_1.out)
       (case side3 => exact cs_ ((Kd.R_reads' HO231.out).2.2))
       (case side4 => exact (Kd.R_reads' HO231.out).2.1)
       rintro e w27 ⟨v234, rfl, ho0, hb⟩
       refine ⟨_, rfl, ?_⟩
       have n0_ := ak_ (Kd.R_below (Kd.pR HO231.out) hb)
       have n1_ := ak_ (Kd.S_lower ho0 (bz_ bl_))
       have n2_ := ak_ (blk_below (pk BK224.out) hb)
       have n3_ := ak_ (blk_below (pk BK225.out) hb)
       have n4_ := ak_ (bs_ bl_ hb)
       clear HO231 BK224 BK225 HB
       have HO231 := n0_; have HO235 := n1_; have BK224 := n2_; have BK225 := n3_; have HB := n4_
       clear n0_ n1_ n2_ n3_ n4_
       (try clear hb)
       (try clear hb2)
       (try clear hk)
       (try clear hi)
       (try clear ho0)
       obtain ⟨Ao28, co28, eo28⟩ := Kd.S_slice HO235.out
       (first | subst eo28 | (injection eo28 with f1_ f2_ f3_; have f4_ := f1_.symm; have f5_ := f3_.symm; clear f1_ f2_ f3_; subst f4_; subst f5_))
       refine hK.out _ _ ⟨(blk_cell BK224.out 0).trans rfl, (blk_cell BK224.out 1).trans rfl, (blk_cell BK224.out 2).trans rfl, (blk_cell BK225.out 0).trans rfl, (blk_cell BK225.out 1).trans rfl⟩ (fun hHeld => ?_)
       clear hK K
       refine nm_ ?_
       refine pu_ 5 42 8 63 ?_
       refine pu_ 6 43 8 127 ?_
       refine pu_ 7 6 8 255 ?_
       refine done_ (done_of HT_.out (by kernel_rfl)) ?_
       try go_wp2
       go_ret
       exact ⟨rx_, by repeat (first | exact HB.out | apply ba_ | apply bN_ | apply b1_ | refine below_set ?_ (Aside0.out (by assumption)))⟩
end Go.Proofs.Ythkchdfkeieabaa.QGr
