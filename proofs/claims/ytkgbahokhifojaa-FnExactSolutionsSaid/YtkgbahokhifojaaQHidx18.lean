/- Contracts of functions of the given program, walked: each call returns what its Lean function says. Conditions: those that stand at each theorem. (Written by a program of this session.) -/
import Derived.Test.YtkgbahokhifojaaQHidx0
import Derived.Test.YtkgbahokhifojaaQHidx3
import Derived.Test.YtkgbahokhifojaaQHidx5
import Derived.Test.YtkgbahokhifojaaQHidx10
namespace Go.Proofs.Ytkgbahokhifojaa.QHid
open Go.RowKit Go.Proofs.YtkgbahokhifojaaW.PrintWords Go.Proofs.YtkgbahokhifojaaW.PrintLast Go.Proofs.YtkgbahokhifojaaW.PrintMore
attribute [local go_sem] max2_int min2_int max_two min_two max_three min_three max_four min_four   -- for this text's walks alone
set_option linter.unusedVariables false
set_option linter.unusedSimpArgs false

/-! ### lists that do not fall, one after the other -/
/-- The numbers from x on, n of them, one after the other. -/
def lkRounds {γ : Type} (f : Int → γ → Option γ) : Nat → Int → γ → Option γ
  | 0, _, a => some a
  | n + 1, x, a => (f x a).bind fun b => lkRounds f n (x + 1) b
/-- The least number that may follow. -/
def leastOf (l : List Int) : Int := if l.length = 0 then 1 else rd l ((l.length : Int) - 1)
/-- Lists that do not fall, of d more numbers up to six: those that p takes are put behind. -/
def look (p : List Int → Option Bool) : Nat → List Int → List (List Int) → Option (List (List Int))
  | 0, l, acc => (p l).bind fun b => if b = true then (if acc.length < 1000000 then some (acc ++ [l]) else none) else some acc
  | d + 1, l, acc => lkRounds (fun x a => look p d (l ++ [x]) a) (7 - leastOf l).toNat (leastOf l) acc
theorem rounds_mono {γ : Type} {f f' : Int → γ → Option γ} (h : ∀ x a, LeO (f x a) (f' x a)) : ∀ n x a, LeO (lkRounds f n x a) (lkRounds f' n x a)
  | 0, _, _ => LeO.refl _
  | n + 1, x, a => by
    unfold lkRounds
    exact LeO.bind (h x a) (fun b => rounds_mono h n (x + 1) b)
theorem look_mono {p q : List Int → Option Bool} (h : ∀ l, LeO (p l) (q l)) : ∀ d l acc, LeO (look p d l acc) (look q d l acc)
  | 0, l, acc => by
    unfold look
    exact LeO.bind (h l) (fun _ => LeO.refl _)
  | d + 1, l, acc => by
    unfold look
    exact rounds_mono (fun x a => look_mono h d (l ++ [x]) a) _ _ _
/-- A visit changes block g and rows of rows alone. -/
def LkFr (g : Nat) (W w' : World) : Prop := W.heap.size ≤ w'.heap.size ∧ ∀ k, k < W.heap.size → k ≠ g → (∀ cs, W.heap[k]? ≠ some (.cells cs 26 (0, 0))) → w'.heap[k]? = W.heap[k]?
theorem LkFr.below {g : Nat} {W w' : World} (h : Below W.heap.size W w') : LkFr g W w' := ⟨h.size, fun k hk _ _ => h.block k hk⟩
theorem LkFr.trans {g : Nat} {W w1 w2 : World} (h : LkFr g W w1) (h' : LkFr g w1 w2) : LkFr g W w2 := ⟨Nat.le_trans h.1 h'.1, fun k hk hg ht => by
  have e := h.2 k hk hg ht
  exact (h'.2 k (Nat.lt_of_lt_of_le hk h.1) hg (fun cs => by rw [e]; exact ht cs)).trans e⟩
theorem LkFr.blk {g k : Nat} {W w' : World} {cs : Array Value} {t : Nat} (h : LkFr g W w') (hb : W.heap[k]? = some (.cells cs t (0, 0))) {cg : Array Value} (hg : W.heap[g]? = some (.cells cg 54 (0, 0))) (ht : t ≠ 26) (ht2 : t ≠ 54) : w'.heap[k]? = some (.cells cs t (0, 0)) := by
  refine (h.2 k (blk_lt hb) ?_ ?_).trans hb
  · rintro rfl
    rw [hb] at hg
    injection hg with hg
    injection hg with _ hg
    exact ht2 hg
  · intro cs' e
    rw [hb] at e
    injection e with e
    injection e with _ e
    exact ht e
theorem LkFr.row {g : Nat} {W w' : World} (h : LkFr g W w') {cg : Array Value} (hg : W.heap[g]? = some (.cells cg 54 (0, 0))) {base : Nat} {ok : Nat → Prop} {v : Value} {l : List Int} (hr : (Kd.int .i64).R 3 W base ok v l) : (Kd.int .i64).R 3 w' base ok v l := by
  refine Kd.R_mono (Kd.R_move (Kd.R_bound hr) (fun k hk => ?_)) (fun _ hk => hk.1)
  obtain ⟨_, _, hlt, q, hq, cells, hc⟩ := hk
  obtain rfl : q = 3 := by simpa [Kd.int, Kd.scalar] using hq
  exact (h.blk hc hg (by decide) (by decide)).trans hc.symm
/-- The rows that stand in the variable of block g. -/
structure LkSt (g : Nat) (w0 W : World) (v : Value) (ok : Nat → Prop) (acc : List (List Int)) : Prop where
  out : W.heap[g]? = some (.cells #[v] 54 (0, 0))
  row : Kd.S (Kd.slice 3 (Kd.int .i64)) 26 W w0.heap.size ok v acc
  bel : Below w0.heap.size w0 W
  ge : w0.heap.size ≤ g
theorem LkSt.up {g : Nat} {w0 W w' : World} {v : Value} {ok : Nat → Prop} {acc : List (List Int)} (h : LkSt g w0 W v ok acc) (hb : Below W.heap.size W w') : LkSt g w0 w' v ok acc := ⟨blk_below h.out hb, Kd.S_below h.row hb, below_step h.bel hb, h.ge⟩
theorem LkSt.any {g : Nat} {w0 W : World} {v : Value} {ok : Nat → Prop} {acc : List (List Int)} (h : LkSt g w0 W v ok acc) : LkSt g w0 W v (fun _ => True) acc := ⟨h.out, Kd.S_mono h.row (fun _ _ => trivial), h.bel, h.ge⟩
theorem LkSt.old {g : Nat} {w0 W : World} {v u : Value} {ok : Nat → Prop} {acc : List (List Int)} (h : LkSt g w0 W v ok acc) (hu : ∀ k, u.ownBlock = some k → W.heap.size ≤ k) : LkSt g w0 W v (fun k => some k ≠ u.ownBlock) acc :=
  ⟨h.out, Kd.S_mono (Kd.S_bound h.row) (fun k hk e => by have := hu k e.symm; have := hk.2.2.1; omega), h.bel, h.ge⟩
theorem LkSt.mono {g : Nat} {w0 W : World} {v : Value} {ok ok' : Nat → Prop} {acc : List (List Int)} (h : LkSt g w0 W v ok acc) (hok : ∀ k, ok k → ok' k) : LkSt g w0 W v ok' acc := ⟨h.out, Kd.S_mono h.row hok, h.bel, h.ge⟩
/-- The row, read. -/
theorem row_C {W : World} {base : Nat} {ok : Nat → Prop} {v : Value} {l : List Int} (h : (Kd.int .i64).R 3 W base ok v l) : ∃ A c, v = .slice A l.length c ∧ l.length ≤ c ∧ (Kd.int .i64).C W A l.length l := by
  obtain ⟨A, c, rfl⟩ := Kd.R_slice h
  obtain ⟨_, h1, h2⟩ := Kd.R_reads' h
  exact ⟨A, c, rfl, h1, h2⟩
theorem leastOf_ge {l : List Int} (h : ∀ y ∈ l, 1 ≤ y) : 1 ≤ leastOf l := by
  unfold leastOf
  by_cases c : l.length = 0
  · rw [if_pos c]; exact Int.le_refl _
  · rw [if_neg c]
    unfold rd
    rw [List.getD_eq_getElem?_getD, List.getElem?_eq_getElem (by omega)]
    exact h _ (List.getElem_mem _)
theorem drop_at_st_45 {l : List (S45)} {kk : Nat} (h : kk < l.length) : l.drop kk = rd_T45 l (kk : Int) :: l.drop (kk + 1) := by
  rw [List.drop_eq_getElem_cons h]
  simp [rd_T45, List.getD_eq_getElem?_getD, List.getElem?_eq_getElem h]
/-! ### spec_pzAll: function 48, and spec.pzLook -/
def spec_pzAll.p (k : Nat) (clues : List S45) (l : List Int) : Option Bool := (anyO (fun c : S45 => (spec_pzFits.f k c.f0 c.f1 c.f2 l).bind fun t => some (!t)) clues).bind fun t => some (!t)
set_option maxHeartbeats 8000000 in
set_option maxRecDepth 100000 in
theorem pz_leaf (k g many : Nat) (Ac : Option Addr) (cc : Nat) (clues : List S45) (w0 : World) (hcl : Kd.C k45 w0 Ac clues.length clues)
    (l : List Int) (vL v : Value) (acc acc' : List (List Int)) (W : World) (hl : l.length = many) (hst : LkSt g w0 W v (fun k => some k ≠ vL.ownBlock) acc) (hr : (Kd.int .i64).R 3 W w0.heap.size (fun _ => True) vL l) (h : look (spec_pzAll.p k clues) 0 l acc = some acc') :
    Calls Try.prog 72 #[.int .i64 (many : Int), .slice Ac clues.length cc, vL, .pointer (some ⟨g, 0, none⟩)] W fun e w' => e = .returned (.tuple #[]) ∧ ∃ v', LkSt g w0 w' v' (fun _ => True) acc' ∧ LkFr g W w' := by
  subst hl
  unfold look at h
  obtain ⟨b, hb0, h⟩ := Option.bind_eq_some_iff.mp h
  obtain ⟨t, ht, hb⟩ := Option.bind_eq_some_iff.mp hb0
  obtain rfl := Option.some.inj hb
  obtain ⟨A1, c1, rfl, hle, hC⟩ := row_C hr
  obtain ⟨A, c, rfl⟩ := Kd.S_slice hst.row
  have HF := Aside0.mk fun (x : S45) (b : Bool) (hx : (spec_pzFits.f k x.f0 x.f1 x.f2 l) = some b) (W1 : World) (hb : Below W.heap.size W W1) => spec_pzFits.calls k x.f0 x.f1 x.f2 A1 c1 l b W1 (Kd.C_below hC hb) hle hx
  have HR0 := Aside0.mk (Kd.C_below hcl hst.bel)
  have ST := Aside0.mk hst
  have RL := Aside0.mk hr
  have HA := Aside0.mk ht
  have HH := Aside0.mk h
  have HB := Aside0.mk (Below.refl W.heap.size W)
  clear hb0 ht hb hC hle hst hr hcl h
  go_enter Try.func72, Try.ntmps72
  go_wp2
  go_loopg [18] clues.length (fun gg v18 wr => ∃ kk : Nat, kk ≤ clues.length ∧ clues.length - kk ≤ gg ∧ v18 = .int .i64 (kk : Int) ∧ Aside0 (Below W.heap.size W wr) ∧ Aside0 (anyO (fun c : S45 => (spec_pzFits.f k c.f0 c.f1 c.f2 l).bind fun t => some (!t)) (clues.drop kk) = some t))
  case atStart => exact ⟨0, Nat.zero_le _, by omega, rfl, ⟨(by repeat (first | (with_reducible first | exact HB.out | apply below_alloc | apply pw_below_drewN | apply below_drew1) | exact HB.out))⟩, HA⟩
  case round =>
    clear HA HB
    obtain ⟨kk, hkk, hg, rfl, HB, HA⟩ := hrel
    have hbig := HR0.out.2.1
    by_cases hlt : kk < clues.length
    · have hltz : (kk : Int) < (clues.length : Int) := by omega
      have hltb : decide ((kk : Int) < (clues.length : Int)) = true := decide_eq_true hltz
      have hw : IntKind.i64.wrap ((kk : Int) + 1) = (kk : Int) + 1 := IntWalk.i64_in _ ⟨by omega, by omega⟩
      have hA := HA.out
      clear HA
      rw [drop_at_st_45 hlt] at hA
      simp only [anyO] at hA
      obtain ⟨b, hb0, hb⟩ := Option.bind_eq_some_iff.mp hA
      obtain ⟨f, hf0, hf⟩ := Option.bind_eq_some_iff.mp hb0
      obtain rfl := Option.some.inj hf
      obtain ⟨ad, eA, hx0, hx1, hx2⟩ := at_T45 (Kd.C_below HR0.out HB.out) (kk : Int) (by omega) (by omega)
      cases eA
      simp only [Int.toNat_natCast] at hx0 hx1 hx2
      have HF1 := Aside0.mk (HF.out _ _ hf0)
      generalize rd_T45 clues (kk : Int) = x at hx0 hx1 hx2 HF1
      have HG := Aside0.mk (And.intro hkk (And.intro hg hlt))
      clear hA hb0 hf hf0 hkk hg hlt hbig
      cases f with
      | false =>
        obtain rfl : true = t := by simpa using hb
        clear hb
        go_wp2_with (first | ((with_reducible refine gate_dst (N := 9) rfl ?_); refine box_event ?hg (N := 9) ?hd (cs := #[.int .i64 0, .int .i64 0, .int .i64 0]) (t := 45) ?hr ?_; (case hd => rfl); (case hg => rfl); (case hr => first | (go_simp; done) | (go_simp; rfl)); intro gb9 hg w9 hbox hb; have nb_ := Aside0.mk (below_step (by repeat (first | (with_reducible first | exact HB.out | apply below_alloc | apply pw_below_drewN | apply below_drew1) | exact HB.out)) hb); have nc_ := Aside0.mk hbox; have nd_ := Aside0.mk ((by rw [hg]; exact (below_size (by repeat (first | (with_reducible first | exact HB.out | apply below_alloc | apply pw_below_drewN | apply below_drew1) | exact HB.out))) : W.heap.size ≤ gb9)); clear HB hb hbox hg; have HB := nb_; have BK9 := nc_; have GE9 := nd_; clear nb_ nc_ nd_; have hz9_0 := (blk_cell BK9.out 0); have hf9_0 := (blk_frozen BK9.out 0); simp at hz9_0; have hz9_1 := (blk_cell BK9.out 1); have hf9_1 := (blk_frozen BK9.out 1); simp at hz9_1; have hz9_2 := (blk_cell BK9.out 2); have hf9_2 := (blk_frozen BK9.out 2); simp at hz9_2; skip) | (go_at_call 59; refine (HF1.out _ (by repeat (first | (with_reducible first | exact HB.out | apply below_alloc | apply pw_below_drewN | apply below_drew1 | refine below_set ?_ GE9.out) | exact HB.out))).mono ?_; rintro e w5 ⟨rfl, hb5⟩; have n0_ := Aside0.mk (below_step (by repeat (first | (with_reducible first | exact HB.out | apply below_alloc | apply pw_below_drewN | apply below_drew1 | refine below_set ?_ GE9.out) | exact HB.out)) hb5); clear HB hb5; have HB := n0_; clear n0_))
        obtain rfl : acc = acc' := by simpa using HH.out
        first | ((try simp only [Exit.inBlock, Exit.then]); refine bodyPost_ret (results_none rfl _ _ _) rfl ?_) | go_end0
        exact ⟨rfl, _, (ST.out.up (by repeat (first | (with_reducible first | exact HB.out | apply below_alloc | apply pw_below_drewN | apply below_drew1) | exact HB.out))).any, LkFr.below (by repeat (first | (with_reducible first | exact HB.out | apply below_alloc | apply pw_below_drewN | apply below_drew1) | exact HB.out))⟩
      | true =>
        have HA := Aside0.mk (show anyO (fun c : S45 => (spec_pzFits.f k c.f0 c.f1 c.f2 l).bind fun t => some (!t)) (clues.drop (kk + 1)) = some t by simpa using hb)
        clear hb
        go_wp2_with (first | ((with_reducible refine gate_dst (N := 9) rfl ?_); refine box_event ?hg (N := 9) ?hd (cs := #[.int .i64 0, .int .i64 0, .int .i64 0]) (t := 45) ?hr ?_; (case hd => rfl); (case hg => rfl); (case hr => first | (go_simp; done) | (go_simp; rfl)); intro gb9 hg w9 hbox hb; have nb_ := Aside0.mk (below_step (by repeat (first | (with_reducible first | exact HB.out | apply below_alloc | apply pw_below_drewN | apply below_drew1) | exact HB.out)) hb); have nc_ := Aside0.mk hbox; have nd_ := Aside0.mk ((by rw [hg]; exact (below_size (by repeat (first | (with_reducible first | exact HB.out | apply below_alloc | apply pw_below_drewN | apply below_drew1) | exact HB.out))) : W.heap.size ≤ gb9)); clear HB hb hbox hg; have HB := nb_; have BK9 := nc_; have GE9 := nd_; clear nb_ nc_ nd_; have hz9_0 := (blk_cell BK9.out 0); have hf9_0 := (blk_frozen BK9.out 0); simp at hz9_0; have hz9_1 := (blk_cell BK9.out 1); have hf9_1 := (blk_frozen BK9.out 1); simp at hz9_1; have hz9_2 := (blk_cell BK9.out 2); have hf9_2 := (blk_frozen BK9.out 2); simp at hz9_2; skip) | (go_at_call 59; refine (HF1.out _ (by repeat (first | (with_reducible first | exact HB.out | apply below_alloc | apply pw_below_drewN | apply below_drew1 | refine below_set ?_ GE9.out) | exact HB.out))).mono ?_; rintro e w5 ⟨rfl, hb5⟩; have n0_ := Aside0.mk (below_step (by repeat (first | (with_reducible first | exact HB.out | apply below_alloc | apply pw_below_drewN | apply below_drew1 | refine below_set ?_ GE9.out) | exact HB.out)) hb5); clear HB hb5; have HB := n0_; clear n0_))
        go_roundg (clues.length - (kk + 1))
        case measure => have := HG.out; omega
        case rel => exact ⟨kk + 1, by have := HG.out; omega, by omega, by go_num, ⟨(by repeat (first | (with_reducible first | exact HB.out | apply below_alloc | apply pw_below_drewN | apply below_drew1) | exact HB.out))⟩, HA⟩
    · have hltz : ¬ (kk : Int) < (clues.length : Int) := by omega
      have hltb : decide ((kk : Int) < (clues.length : Int)) = false := decide_eq_false hltz
      have hA := HA.out
      rw [show kk = clues.length by omega, List.drop_length] at hA
      obtain rfl : false = t := by simpa [anyO] using hA
      clear hA HA hkk hg hlt hbig HF HR0
      have HLEN : acc.length < 1000000 ∧ acc ++ [l] = acc' := by
        have h := HH.out
        rw [if_pos (by rfl)] at h
        by_cases c : acc.length < 1000000
        · rw [if_pos c] at h; exact ⟨c, Option.some.inj h⟩
        · rw [if_neg c] at h; exact absurd h (by simp)
      obtain ⟨hlen, rfl⟩ := HLEN
      have HL := Aside0.mk hlen
      clear hlen HH
      have S2 := Aside0.mk (ST.out.up HB.out)
      have R2 := Aside0.mk (Kd.R_below RL.out HB.out)
      have hy5 := (blk_cell S2.out.out 0)
      simp at hy5
      have hf5 := (blk_frozen S2.out.out 0)
      go_wp2_with (first | ((with_reducible refine gate_builtin (b := .append) (xs := #[.tmp 30, .tmp 32]) rfl ?_); at_builtin; refine Kd.S_append (Kd.slice 3 (Kd.int .i64)) (w0 := w0) w0.heap.size rfl (.tmp 30) (.tmp 32) 54 26 (.slice none 0 0) 24 rfl Try.underlying54 info26 rfl (by decide) (by omega) (.slice A acc.length c) acc l [.slice A1 l.length c1] (fun _ => True) (fun k_ => some k_ = (Value.slice A1 l.length c1).ownBlock) rfl rfl ?aP ?aK (fun _ _ => trivial) ?aO ?aB ?aS ?aL ?_; (case aP => exact ⟨_, rfl, Kd.R_tight rfl (Kd.pR R2.out)⟩); (case aK => (intro k_ hk_; exact ⟨trivial, (by obtain ⟨cells_, hc_⟩ := Kd.R_typed R2.out k_ hk_.symm; exact Kd.S_ne S2.out.row hc_ (by decide))⟩)); (case aO => exact Kd.S_mono (Kd.pS S2.out.row) (fun k_ hk_ => ⟨trivial, hk_⟩)); (case aB => exact (S2.out.up (by repeat (first | exact Below.refl _ _ | apply pw_below_drewN | apply below_drew1 | apply below_alloc))).bel); (case aS => exact below_size (S2.out.up (by repeat (first | exact Below.refl _ _ | apply pw_below_drewN | apply below_drew1 | apply below_alloc))).bel); (case aL => have := HL.out; omega); intro v9 w9 ho hb hg hat; obtain ⟨Ao, co, rfl⟩ := Kd.S_slice ho; have HO := Aside0.mk ho; have HB9 := Aside0.mk hb; have HG := Aside0.mk hg; have n0_ := Aside0.mk (blk_grown (pk S2.out.out) hg (Kd.S_ne S2.out.row S2.out.out (by decide))); have hf9 := (blk_frozen n0_.out 0); have hy9 := (blk_cell n0_.out 0); simp at hy9; clear ho hb hg hat))
      first | ((try simp only [Exit.inBlock, Exit.then]); refine bodyPost_ret (results_none rfl _ _ _) rfl ?_) | go_end0
      first | refine ⟨rfl, ⟨.slice Ao (acc.length + 1) co, ?_, ?_, ?_, ST.out.ge⟩, ?_⟩ | refine ⟨rfl, .slice Ao (acc.length + 1) co, ⟨?_, ?_, ?_, ST.out.ge⟩, ?_⟩
      rotate_left
      · exact (by (with_reducible repeat (first | apply Kd.S_alloc | apply Kd.S_drewN | apply Kd.S_drew)); have h_ := Kd.S_set HO.out n0_.out (by decide) 0 (.slice Ao (acc.length + 1) co); rw [List.length_append, List.length_singleton] at h_; exact h_)
      · exact (by repeat (first | (with_reducible first | exact HB9.out | apply below_alloc | apply pw_below_drewN | apply below_drew1 | refine below_set ?_ ST.out.ge) | exact HB9.out))
      · refine ⟨?_, fun k_ hk_ hg_ ht_ => ?_⟩
        · have h1_ := HB.out.size
          have h2_ := HG.out.size
          first | (simp; omega) | (simp at h2_ ⊢; omega)
        · have e1_ : wr.heap[k_]? = W.heap[k_]? := HB.out.block k_ hk_
          have e2_ : w9.heap[k_]? = wr.heap[k_]? := HG.out.block k_ (Nat.lt_of_lt_of_le hk_ HB.out.size) (fun he_ => by
            obtain ⟨cells_, hc_⟩ := Kd.S_typed S2.out.row k_ he_.symm
            exact ht_ cells_ (e1_.symm.trans hc_))
          exact (Below.heap_setCell w9 ⟨g, 0, none⟩ _ k_ hg_).trans (e2_.trans e1_)
      · exact (by (with_reducible repeat (first | refine blk_drewN ?_ _ | refine blk_drew ?_ | refine blk_alloc ?_ _)); exact blk_put n0_.out 0 _ rfl)
set_option maxHeartbeats 8000000 in
set_option maxRecDepth 100000 in
theorem pz_step (k g many : Nat) (Ac : Option Addr) (cc : Nat) (clues : List S45) (w0 : World) (d : Nat) (hmany : many ≤ 100)
    (hI : ∀ (l : List Int) (vL v : Value) (acc acc' : List (List Int)) (W : World), l.length + d = many → (∀ y ∈ l, 1 ≤ y) → LkSt g w0 W v (fun k => some k ≠ vL.ownBlock) acc → (Kd.int .i64).R 3 W w0.heap.size (fun _ => True) vL l → look (spec_pzAll.p k clues) d l acc = some acc' →
      Calls Try.prog 72 #[.int .i64 (many : Int), .slice Ac clues.length cc, vL, .pointer (some ⟨g, 0, none⟩)] W fun e w' => e = .returned (.tuple #[]) ∧ ∃ v', LkSt g w0 w' v' (fun _ => True) acc' ∧ LkFr g W w')
    (l : List Int) (vL v : Value) (acc acc' : List (List Int)) (W : World) (hl : l.length + (d + 1) = many) (hpos : ∀ y ∈ l, 1 ≤ y) (hst : LkSt g w0 W v (fun k => some k ≠ vL.ownBlock) acc) (hr : (Kd.int .i64).R 3 W w0.heap.size (fun _ => True) vL l) (h : look (spec_pzAll.p k clues) (d + 1) l acc = some acc') :
    Calls Try.prog 72 #[.int .i64 (many : Int), .slice Ac clues.length cc, vL, .pointer (some ⟨g, 0, none⟩)] W fun e w' => e = .returned (.tuple #[]) ∧ ∃ v', LkSt g w0 w' v' (fun _ => True) acc' ∧ LkFr g W w' := by
  generalize hp : spec_pzAll.p k clues = p at hI h
  clear hp
  obtain ⟨A0, c0, rfl, hle, hC⟩ := row_C hr
  have HLC := Aside0.mk (And.intro hle hC)
  have ST := Aside0.mk hst.any
  have RL := Aside0.mk hr
  have HI := Aside0.mk hI
  have HP := Aside0.mk hpos
  have HM := Aside0.mk (And.intro hl hmany)
  have H := Aside0.mk (show lkRounds (fun x a => look p d (l ++ [x]) a) (7 - leastOf l).toNat (leastOf l) acc = some acc' from h)
  have hx1 := leastOf_ge hpos
  have HCl2 := Aside0.mk fun (W1 : World) (h1 : (Kd.int .i64).R 3 W1 w0.heap.size (fun _ => True) (.slice A0 l.length c0) l) => spec_l1Own.calls A0 c0 l l W1 (Kd.R_reads' h1).2.2 hle (by unfold spec_l1Own.f; simp; omega)
  have k0 : ((l.length : Int) == (many : Int)) = false := beq_eq_false_iff_ne.mpr (by omega)
  have k1 : (l.length == many) = false := beq_eq_false_iff_ne.mpr (by omega)
  have k2 : ¬ (l.length = many) := by omega
  clear hl hmany hI hpos hst hr h hle hC
  go_enter Try.func72, Try.ntmps72
  go_upto_if 37 with (fail)
  go_cut [10] (fun v10 wc => v10 = .int .i64 (leastOf l) ∧ Aside0 (Below W.heap.size W wc))
  case first =>
    have hC := HLC.out.2
    have HM1 := HM.out
    clear HLC ST RL HI HP HM H HCl2 hx1 k0 k1 k2
    by_cases hn : l.length = 0
    · have E := Aside0.mk (show leastOf l = 1 from if_pos hn)
      have c1 : decide ((0 : Int) < (l.length : Int)) = false := decide_eq_false (by omega)
      have c2 : decide (0 < l.length) = false := decide_eq_false (by omega)
      have c3 : ¬ 0 < l.length := by omega
      clear hC HM1 hn
      go_wp2
      go_meet
      case rel => exact ⟨by rw [E.out], ⟨by repeat (first | exact Below.refl _ _ | apply pw_below_drewN | apply below_drew1)⟩⟩
    · have e : leastOf l = rd l ((l.length : Int) - 1) := if_neg hn
      obtain ⟨ad, rfl, hx0⟩ := Kd.at_int hC ((l.length : Int) - 1) (by omega) (by omega)
      have c1 : decide ((0 : Int) < (l.length : Int)) = true := decide_eq_true (by omega)
      have c2 : decide (0 < l.length) = true := decide_eq_true (by omega)
      have c3 : 0 < l.length := by omega
      generalize rd l ((l.length : Int) - 1) = x0 at hx0 e
      have E := Aside0.mk e
      clear e
      obtain ⟨m, hm⟩ : ∃ m : Nat, (l.length : Int) - 1 = (m : Int) := ⟨l.length - 1, by omega⟩
      have hw : IntKind.i64.wrap ((l.length : Int) - 1) = (m : Int) := by rw [hm]; exact IntWalk.i64_in _ ⟨by omega, by omega⟩
      have hml : decide ((m : Int) < (l.length : Int)) = true := decide_eq_true (by omega)
      have hml1 : (m : Int) < (l.length : Int) := by omega
      have hml2 : m < l.length := by omega
      rw [hm, Int.toNat_natCast] at hx0
      clear hC HM1 hn hm
      go_wp2
      go_meet
      case rel => exact ⟨by rw [E.out], ⟨by repeat (first | exact Below.refl _ _ | apply pw_below_drewN | apply below_drew1)⟩⟩
  obtain ⟨rfl, HB⟩ := hcut
  have n0_ := Aside0.mk (ST.out.up HB.out)
  have n2_ := Aside0.mk (Kd.R_below RL.out HB.out)
  have n4_ := Aside0.mk (LkFr.below (g := g) HB.out)
  clear ST RL HB HLC k0 k1 k2
  have ST := n0_; have RL := n2_; have FR := n4_
  clear n0_ n2_ n4_
  generalize leastOf l = x0 at H hx1 ⊢
  have hs := Aside0.mk hx1
  clear hx1
  go_wp2
  go_loopg [11] (7 - x0).toNat (fun gg v11 wr => ∃ (x : Int) (a1 : List (List Int)) (v1 : Value), v11 = .int .i64 x ∧ (7 - x).toNat ≤ gg ∧ 1 ≤ x ∧ Aside0 (lkRounds (fun x a => look p d (l ++ [x]) a) (7 - x).toNat x a1 = some acc') ∧ Aside0 (LkSt g w0 wr v1 (fun _ => True) a1) ∧ Aside0 ((Kd.int .i64).R 3 wr w0.heap.size (fun _ => True) (.slice A0 l.length c0) l) ∧ Aside0 (LkFr g W wr))
  case atStart => exact ⟨x0, acc, v, rfl, Nat.le_refl _, hs.out, H, ⟨ST.out.up (by repeat (first | exact Below.refl _ _ | apply pw_below_drewN | apply below_drew1 | apply below_alloc))⟩, ⟨Kd.R_below RL.out (by repeat (first | exact Below.refl _ _ | apply pw_below_drewN | apply below_drew1 | apply below_alloc))⟩, ⟨FR.out.trans (LkFr.below (by repeat (first | exact Below.refl _ _ | apply pw_below_drewN | apply below_drew1 | apply below_alloc)))⟩⟩
  case round =>
    clear H ST RL FR hs
    obtain ⟨x, a1, v1, rfl, hg, hx1, H, ST, RL, FR⟩ := hrel
    by_cases hlt : x ≤ 6
    · have q1 : decide (x ≤ 6) = true := decide_eq_true hlt
      obtain ⟨n, hn⟩ : ∃ n, (7 - x).toNat = n + 1 := ⟨(7 - x).toNat - 1, by omega⟩
      have h := H.out
      rw [hn] at h
      simp only [lkRounds] at h
      obtain ⟨a2, h1, h2⟩ := Option.bind_eq_some_iff.mp h
      rw [show n = (7 - (x + 1)).toNat by omega] at h2
      have hw : IntKind.i64.wrap (x + 1) = x + 1 := IntWalk.i64_in _ ⟨by omega, by omega⟩
      have H2 := Aside0.mk h2
      have H1 := Aside0.mk h1
      have HN := Aside0.mk (And.intro hn (And.intro hg (And.intro hx1 hlt)))
      have HB := Aside0.mk (Below.refl wr.heap.size wr)
      clear h h1 h2 H hn hg hx1 hlt
      go_wp2_with (first | (go_at_call 49; refine (HCl2.out _ (Kd.R_below RL.out (by repeat (first | (with_reducible first | exact HB.out | apply below_alloc | apply pw_below_drewN | apply below_drew1) | exact HB.out)))).mono ?_; rintro e w5 ⟨s1, rfl, hR0, hb0⟩; have hR := Aside0.mk (Kd.R_lower hR0 (below_size (by repeat (first | (with_reducible first | exact HB.out | apply below_alloc | apply pw_below_drewN | apply below_drew1) | exact HB.out)))); have n0_ := Aside0.mk (below_step (by repeat (first | (with_reducible first | exact HB.out | apply below_alloc | apply pw_below_drewN | apply below_drew1) | exact HB.out)) hb0); clear hR0 hb0 HB; have HB := n0_; clear n0_) | ((with_reducible refine gate_builtin (b := .append) (xs := #[.tmp 52, .tmp 54]) rfl ?_); at_builtin; refine Kd.R_append (Kd.int .i64) (w0 := wr) wr.heap.size rfl (.tmp 52) (.tmp 54) 26 3 (.int .i64 0) 8 rfl Try.underlying26 info3 rfl (by decide) (by omega) s1 l x [.int .i64 x] (fun _ => True) (fun _ => False) rfl rfl ?aP (fun _ hk => hk.elim) (fun _ _ => trivial) ?aO ?aB ?aS ?aL ?_; (case aP => exact rfl); (case aO => exact Kd.pR hR.out); (case aB => exact (by repeat (first | (with_reducible first | exact HB.out | apply below_alloc | apply pw_below_drewN | apply below_drew1) | exact HB.out))); (case aS => exact below_size (by repeat (first | (with_reducible first | exact HB.out | apply below_alloc | apply pw_below_drewN | apply below_drew1) | exact HB.out))); (case aL => have := HM.out; omega); intro v3 w7 ho hb hg_ hat_; clear hg_ hat_; have n0_ := Aside0.mk ((ST.out.old (u := v3) (Kd.R_base ho)).up hb); have n2_ := Aside0.mk (Kd.R_below RL.out hb); have n4_ := Aside0.mk (FR.out.trans (LkFr.below hb)); have HO := Aside0.mk (Kd.R_lower ho (below_size ST.out.bel)); clear ST RL FR ho hb; have ST := n0_; have RL := n2_; have FR := n4_; clear n0_ n2_ n4_) | (go_at_call 72; refine (HI.out (l ++ [x]) v3 v1 a1 a2 _ (by have := HM.out; simp; omega) (by intro y hy; rw [List.mem_append, List.mem_singleton] at hy; obtain hy | rfl := hy; exact HP.out y hy; have := HN.out; omega) (ST.out.up (by repeat (first | exact Below.refl _ _ | apply pw_below_drewN | apply below_drew1 | apply below_alloc))) (Kd.R_below HO.out (by repeat (first | exact Below.refl _ _ | apply pw_below_drewN | apply below_drew1 | apply below_alloc))) H1.out).mono ?_; rintro e w9 ⟨rfl, v4, hst4, hfr4⟩; have n0_ := Aside0.mk hst4; have n4_ := Aside0.mk (LkFr.trans (LkFr.below (by repeat (first | exact Below.refl _ _ | apply pw_below_drewN | apply below_drew1 | apply below_alloc))) hfr4); have n2_ := Aside0.mk (n4_.out.row ST.out.out RL.out); have n5_ := Aside0.mk (FR.out.trans n4_.out); clear ST RL FR HO hst4 hfr4; have ST := n0_; have RL := n2_; have FR := n5_; clear n0_ n2_ n4_ n5_))
      go_roundg n
      case measure => have := HN.out; omega
      case rel => exact ⟨x + 1, a2, v4, (by first | rfl | (simp; done) | (simp [*]; done)), by have := HN.out; omega, by have := HN.out; omega, H2, ⟨ST.out.up (by repeat (first | exact Below.refl _ _ | apply pw_below_drewN | apply below_drew1 | apply below_alloc))⟩, ⟨Kd.R_below RL.out (by repeat (first | exact Below.refl _ _ | apply pw_below_drewN | apply below_drew1 | apply below_alloc))⟩, ⟨FR.out.trans (LkFr.below (by repeat (first | exact Below.refl _ _ | apply pw_below_drewN | apply below_drew1 | apply below_alloc)))⟩⟩
    · have q1 : decide (x ≤ 6) = false := decide_eq_false hlt
      have h := H.out
      rw [show (7 - x).toNat = 0 by omega] at h
      obtain rfl := Option.some.inj h
      clear h H hg hx1 hlt
      go_wp2
      first | ((try simp only [Exit.inBlock, Exit.then]); refine bodyPost_ret (results_none rfl _ _ _) rfl ?_) | go_end0
      exact ⟨rfl, ⟨v1, ST.out.up (by repeat (first | exact Below.refl _ _ | apply pw_below_drewN | apply below_drew1 | apply below_alloc))⟩, FR.out.trans (LkFr.below (by repeat (first | exact Below.refl _ _ | apply pw_below_drewN | apply below_drew1 | apply below_alloc)))⟩
theorem pz_calls (k g many : Nat) (Ac : Option Addr) (cc : Nat) (clues : List S45) (w0 : World) (hcl : Kd.C k45 w0 Ac clues.length clues) (hmany : many ≤ 100) :
    ∀ (d : Nat) (l : List Int) (vL v : Value) (acc acc' : List (List Int)) (W : World), l.length + d = many → (∀ y ∈ l, 1 ≤ y) → LkSt g w0 W v (fun k => some k ≠ vL.ownBlock) acc → (Kd.int .i64).R 3 W w0.heap.size (fun _ => True) vL l → look (spec_pzAll.p k clues) d l acc = some acc' →
      Calls Try.prog 72 #[.int .i64 (many : Int), .slice Ac clues.length cc, vL, .pointer (some ⟨g, 0, none⟩)] W fun e w' => e = .returned (.tuple #[]) ∧ ∃ v', LkSt g w0 w' v' (fun _ => True) acc' ∧ LkFr g W w'
  | 0, l, vL, v, acc, acc', W, h1, _, h3, h5, h7 => pz_leaf k g many Ac cc clues w0 hcl l vL v acc acc' W h1 h3 h5 h7
  | d + 1, l, vL, v, acc, acc', W, h1, h2, h3, h5, h7 => pz_step k g many Ac cc clues w0 d hmany (pz_calls k g many Ac cc clues w0 hcl hmany d) l vL v acc acc' W h1 h2 h3 h5 h7
def spec_pzAll.f (k : Nat) (a0 : Int) (l1 : List (S45)) : Option (List (List Int)) := if 0 ≤ a0 then (if a0 ≤ 100 then look (spec_pzAll.p k l1) a0.toNat [] [] else none) else none
theorem spec_pzAll.mono : ∀ a0 a1 k, LeO (spec_pzAll.f k a0 a1) (spec_pzAll.f (k + 1) a0 a1) := by
  intro a0 a1 k
  unfold spec_pzAll.f
  refine LeO.ite (LeO.ite (look_mono (fun l => ?_) _ _ _) (LeO.refl _)) (LeO.refl _)
  unfold spec_pzAll.p
  exact LeO.bind (anyO_mono (fun c => LeO.bind (spec_pzFits.mono _ _ _ _ _) (fun _ => LeO.refl _)) _) (fun _ => LeO.refl _)
set_option maxHeartbeats 8000000 in
set_option maxRecDepth 100000 in
theorem spec_pzAll.calls (k : Nat) (a0 : Int) (A1 : Option Addr) (c1 : Nat) (l1 : List (S45)) (r : List (List Int)) (w : World) (hr1 : Kd.C k45 w A1 l1.length l1) (hc1 : l1.length ≤ c1) (h : spec_pzAll.f k a0 l1 = some r) :
    Calls Try.prog 48 #[.int .i64 a0, .slice A1 l1.length c1] w fun e w' => ∃ v0_ : Value, e = .returned (v0_) ∧ Kd.S (Kd.slice 3 (Kd.int .i64)) 26 w' w.heap.size (fun _ => True) v0_ r ∧ Below w.heap.size w w' := by
  unfold spec_pzAll.f at h
  by_cases h0 : 0 ≤ a0
  rotate_left
  · rw [if_neg h0] at h; exact absurd h (by simp)
  rw [if_pos h0] at h
  by_cases h100 : a0 ≤ 100
  rotate_left
  · rw [if_neg h100] at h; exact absurd h (by simp)
  rw [if_pos h100] at h
  obtain ⟨many, rfl⟩ : ∃ many : Nat, a0 = (many : Int) := ⟨a0.toNat, by omega⟩
  rw [Int.toNat_natCast] at h
  have HN := Aside0.mk fun (g : Nat) (W : World) (hst : LkSt g w W (.slice none 0 0) (fun _ => True) []) =>
    pz_calls k g many A1 c1 l1 w hr1 (by omega) many [] (.slice none 0 0) (.slice none 0 0) [] r W (by simp) (by simp) (hst.mono (fun k _ => by simp [Value.ownBlock])) (Kd.R_nil _ _ _ _ _) h
  have HB := Aside0.mk (Below.refl w.heap.size w)
  clear h h0 h100 hr1 hc1
  go_enter Try.func48, Try.ntmps48
  go_upto_region 2 with (first | ((with_reducible refine gate_dst (N := 5) rfl ?_); refine box_event ?hg (N := 5) ?hd (cs := #[.slice none 0 0]) (t := 54) ?hr ?_; (case hd => rfl); (case hg => rfl); (case hr => first | (go_simp; done) | (go_simp; rfl)); intro gb5 hg w5 hbox hb; have nb_ := Aside0.mk (below_step (by repeat (first | (with_reducible first | exact HB.out | apply below_alloc | apply pw_below_drewN | apply below_drew1) | exact HB.out)) hb); have nc_ := Aside0.mk hbox; have nd_ := Aside0.mk ((by rw [hg]; exact (below_size (by repeat (first | (with_reducible first | exact HB.out | apply below_alloc | apply pw_below_drewN | apply below_drew1) | exact HB.out))) : w.heap.size ≤ gb5)); clear HB hb hbox hg; have HB := nb_; have BK5 := nc_; have GE5 := nd_; clear nb_ nc_ nd_; have hz5_0 := (blk_cell BK5.out 0); have hf5_0 := (blk_frozen BK5.out 0); simp at hz5_0; skip))
  have HX := Aside0.mk (HN.out gb5 w5 ⟨BK5.out, Kd.S_nil _ _ _ _ _, HB.out, GE5.out⟩)
  clear HN BK5 HB hz5_0 hf5_0 GE5
  go_upto_region 3 with (go_at_call 72; refine HX.out.mono ?_; rintro e w8 ⟨rfl, v', h1, h2⟩; have H1 := Aside0.mk h1; clear h1 h2)
  have hy5 := (blk_cell H1.out.out 0)
  simp at hy5
  go_wp2
  go_ret
  exact ⟨_, rfl, (H1.out.up (by repeat (first | exact Below.refl _ _ | apply pw_below_drewN | apply below_drew1 | apply below_alloc))).row, (H1.out.up (by repeat (first | exact Below.refl _ _ | apply pw_below_drewN | apply below_drew1 | apply below_alloc))).bel⟩

/-! ### slices_Clone_int_int_s: function 51 -/
def slices_Clone_int_int_s.f (l0 : List Int) : Option (List Int) := (some (([] : List Int) : List Int)).bind fun y569 => (if y569.length + l0.length < 17592186044416 then (some (y569 ++ l0)) else (none))
set_option maxHeartbeats 8000000 in
set_option maxRecDepth 100000 in
theorem slices_Clone_int_int_s.calls (ad0 : Addr) (c0 : Nat) (l0 : List Int) (r : List Int) (w : World) (hr0 : Kd.C (Kd.int .i64) w (some ad0) l0.length l0) (hc0 : l0.length ≤ c0) (h : slices_Clone_int_int_s.f l0 = some r) :
    Calls Try.prog 51 #[.slice (some ad0) l0.length c0] w fun e w' => ∃ v0_ : Value, e = .returned (v0_) ∧ Kd.R (Kd.int .i64) 3 w' w.heap.size (fun _ => True) v0_ r ∧ Below w.heap.size w w' := by
  have HR0 := Aside0.mk hr0
  have HC0 := Aside0.mk hc0
  clear hr0 hc0
  have HB := Aside0.mk (Below.refl w.heap.size w)
  have H : ((some (([] : List Int) : List Int)).bind fun y569 => (if y569.length + l0.length < 17592186044416 then (some (y569 ++ l0)) else (none))) = some r := h
  clear h
  obtain ⟨y569, hy569⟩ : ∃ y_ : List Int, y_ = (([] : List Int)) := ⟨_, rfl⟩
  replace H : (if y569.length + l0.length < 17592186044416 then (some (y569 ++ l0)) else (none)) = some r := by first | (rw [hy569]; with_reducible exact H) | (have H2_ := (Option.bind_some _ _).symm.trans H; rw [hy569]; with_reducible exact H2_) | (have H2_ := (Option.bind_some _ _).symm.trans H; with_reducible exact H2_) | with_reducible exact H | (rw [hy569]; exact H) | exact H
  have Ny569 := Aside0.mk hy569
  clear hy569
  by_cases c2 : y569.length + l0.length < 17592186044416
  · rw [if_pos c2] at H
    have LMc2 := Aside0.mk c2
    clear c2
    obtain ⟨y572, hy572⟩ : ∃ y_ : List Int, y_ = (y569 ++ l0) := ⟨_, rfl⟩
    replace H : (some y572) = some r := by first | (rw [hy572]; with_reducible exact H) | (have H2_ := (Option.bind_some _ _).symm.trans H; rw [hy572]; with_reducible exact H2_) | (have H2_ := (Option.bind_some _ _).symm.trans H; with_reducible exact H2_) | with_reducible exact H | (rw [hy572]; exact H) | exact H
    have Ny572 := Aside0.mk hy572
    clear hy572
    obtain rfl := Option.some.inj H
    have hnil := fun (W : World) (a : Option Addr) (n c : Nat) => Go.Lib.run_eql_slice_nil (P := Try.prog) W 26 3 a n c 0 0 Try.underlying26
    go_enter Try.func51, Try.ntmps51
    go_wp2_with (first | ((with_reducible refine gate_dst (N := 5) rfl ?_); refine Kd.R_lit (Kd.int .i64) _ 3 ?hg (N := 5) ?hd (xs := ([] : List Int)) (inner := []) (ok := fun _ => True) (okp := fun _ => True) ?hr ?hp (fun _ hk => hk) trivial (Below.refl _ _) (Nat.le_refl _) (by simp) ?_; (case hd => rfl); (case hg => rfl); (case hr => first | (go_simp; done) | (go_simp; rfl)); (case hp => exact (Reps.none _ _)); intro v570 w3 ho4 hb hg_ hnew_; clear hg_ hnew_; (first | rw [← Ny569.out] at ho4 | (simp only [Int.reduceToNat] at ho4; rw [← Ny569.out] at ho4)); have n0_ := Aside0.mk (Kd.R_lower ho4 (below_size (by repeat (first | (with_reducible first | exact HB.out | apply below_alloc | apply pw_below_drewN | apply below_drew1) | exact HB.out)))); have n1_ := Aside0.mk (below_step (by repeat (first | (with_reducible first | exact HB.out | apply below_alloc | apply pw_below_drewN | apply below_drew1) | exact HB.out)) hb); clear HB; have HO571 := n0_; have HB := n1_; clear n0_ n1_; clear hb ho4) | ((with_reducible refine gate_builtin (b := .append) (xs := #[.tmp 5, .tmp 6]) rfl ?_); at_builtin; refine Kd.R_append_rows (Kd.int .i64) (w0 := w) w.heap.size rfl (.tmp 5) (.tmp 6) 26 3 (.int .i64 0) 8 rfl Try.underlying26 info3 rfl (by decide) (by omega) v570 y569 l0 _ _ _ (fun _ => True) (fun _ => False) rfl rfl ?aO ?aR (fun _ _ h => h) (fun _ h => h.elim) ?aF ?aB ?aS ?aL ?_; (case aR => repeat (first | exact (Kd.C_below HR0.out HB.out) | (with_reducible refine Kd.C_alloc ?_ _) | (with_reducible refine Kd.C_drewN ?_ _) | (with_reducible refine Kd.C_drew ?_))); (case aB => exact (by repeat (first | (with_reducible first | exact HB.out | apply below_alloc | apply pw_below_drewN | apply below_drew1) | exact HB.out))); (case aF => exact (fun _ _ => trivial)); (case aO => exact (by (with_reducible repeat (first | apply Kd.R_alloc | apply Kd.R_drewN | apply Kd.R_drew)); exact HO571.out)); (case aS => exact (below_size (by repeat (first | (with_reducible first | exact HB.out | apply below_alloc | apply pw_below_drewN | apply below_drew1) | exact HB.out)))); (case aL => have := LMc2.out; omega); intro v573 w5 ho hb hg hat; rw [← Ny572.out] at ho; have n0_ := Aside0.mk (hb); have n1_ := Aside0.mk (ho); clear HB; clear HO571; have HB := n0_; have HO574 := n1_; clear n0_ n1_; clear ho hb hg hat))
    go_ret
    exact ⟨_, by first | rfl | (simp [errW_none, errW_some] <;> rfl) | (simp [*, errW_none, errW_some] <;> rfl), by (with_reducible repeat (first | apply Kd.R_alloc | apply Kd.R_drewN | apply Kd.R_drew)); exact HO574.out, by repeat (first | (with_reducible first | exact HB.out | apply below_alloc | apply pw_below_drewN | apply below_drew1) | exact HB.out)⟩
  · rw [if_neg c2] at H
    exact absurd H (by simp)

theorem slices_Clone_int_int_s.f_eq (l0 : List Int) : slices_Clone_int_int_s.f l0 = if l0.length < 17592186044416 then some l0 else none := by
  unfold slices_Clone_int_int_s.f
  simp
def slices_Clone_int_int.f (l0 : List Int) : Option (List Int) := if l0.length < 17592186044416 then some l0 else none
set_option maxHeartbeats 8000000 in
set_option maxRecDepth 100000 in
theorem slices_Clone_int_int.calls (A0 : Option Addr) (c0 : Nat) (l0 : List Int) (r : List Int) (w : World) (hr0 : Kd.C (Kd.int .i64) w A0 l0.length l0) (hc0 : l0.length ≤ c0) (h : slices_Clone_int_int.f l0 = some r) :
    Calls Try.prog 51 #[.slice A0 l0.length c0] w fun e w' => ∃ v0_ : Value, e = .returned (v0_) ∧ Kd.R (Kd.int .i64) 3 w' w.heap.size (fun _ => True) v0_ r ∧ Below w.heap.size w w' := by
  cases A0 with
  | some ad => exact slices_Clone_int_int_s.calls ad c0 l0 r w hr0 hc0 (by rw [slices_Clone_int_int_s.f_eq]; exact h)
  | none =>
    obtain rfl : l0 = [] := by
      cases l0 with
      | nil => rfl
      | cons x xs =>
        obtain ⟨ad, he, _⟩ := hr0.2.2 (by simp)
        exact absurd he (by simp)
    obtain rfl : [] = r := by
      unfold slices_Clone_int_int.f at h
      simpa using h
    clear hr0 h
    have hnil := fun (W : World) (a : Option Addr) (n c : Nat) => Go.Lib.run_eql_slice_nil (P := Try.prog) W 26 3 a n c 0 0 Try.underlying26
    go_enter Try.func51, Try.ntmps51
    go_wp2
    go_ret
    exact ⟨_, rfl, Kd.R_nil (Kd.int .i64) 3 w w.heap.size _, Below.refl _ _⟩

end Go.Proofs.Ytkgbahokhifojaa.QHid
