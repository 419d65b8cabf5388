/- Contracts of functions of the given program, walked. Conditions: those at each theorem. -/
import Derived.Test.YtmdbhpbogbekmaaQNtx0
import Derived.Test.YtmdbhpbogbekmaaQNtx9
import Derived.Test.YtmdbhpbogbekmaaQNtx12
import Derived.Test.YtmdbhpbogbekmaaQNtx16
import Derived.Test.YtmdbhpbogbekmaaQNtx1
import Derived.Test.YtmdbhpbogbekmaaQNtx8
namespace Go.Proofs.Ytmdbhpbogbekmaa.QNt
open Go.RowKit Go.Proofs.YtmdbhpbogbekmaaW.PrintWords Go.Proofs.YtmdbhpbogbekmaaW.PrintLast Go.Proofs.YtmdbhpbogbekmaaW.PrintMore
open List (setIfInBounds_toArray set_cons_zero set_cons_succ map_toArray map_cons map_nil)
attribute [local go_sem] max2_int min2_int max_two min_two max_three min_three max_four min_four
set_option linter.unusedVariables false
set_option maxHeartbeats 8000000
set_option maxRecDepth 100000
set_option linter.unusedSimpArgs false
def GOut (fo : Nat) (cb : Array Value) (N : Int) (E : Int → List S90) (w0 : World) : Prop :=
 ∀ (W : World) (s : Int), Below w0.heap.size w0 W → 0 ≤ s → s < N → Calls Try.prog fo (#[.int .i64 s] ++ cb) W fun e w' => ∃ v : Value, e = .returned v ∧ Kd.S k90 90 w' W.heap.size (fun _ => True) v (E s) ∧ Below W.heap.size W w'
def frPad (n : Nat) (w : List (List Int)) : List (List Int) := w ++ List.replicate (n + 1 - w.length) []
theorem frPad_of {n t : Nat} {w w2 : List (List Int)} (h : w2 = w ++ List.replicate t []) (ht : t = 0 ∨ w2.length ≤ n + 1) (hn : n < w2.length) : w2 = frPad n w := by
 unfold frPad
 rw [h]
 have hl : w2.length = w.length + t := by rw [h, List.length_append, List.length_replicate]
 congr 2
 omega
theorem frPad_len (n : Nat) (w : List (List Int)) : w.length ≤ (frPad n w).length := by
 unfold frPad
 rw [List.length_append]
 omega
def frEdges (d : Nat) (dist : List Int) : List S90 → List (List Int) → Option (List (List Int))
 | [], w => some w
 | e :: es, w => if 0 ≤ e.f0 ∧ e.f0 < (dist.length : Int) then (if rdOf 0 dist e.f0 ≥ 0 then frEdges d dist es w else (if 1 ≤ e.f1 ∧ (d : Int) + e.f1 < 1000000 ∧ ((frPad (d + e.f1.toNat) w).getD (d + e.f1.toNat) []).length < 1000000 ∧ w.length < 1000000 then
  frEdges d dist es ((frPad (d + e.f1.toNat) w).set (d + e.f1.toNat) (((frPad (d + e.f1.toNat) w).getD (d + e.f1.toNat) []) ++ [e.f0])) else none)) else none
def frRun (E : Int → List S90) (N : Int) : Nat → Nat → Nat → List Int → List (List Int) → Option (List Int)
 | 0, _, _, _, _ => none
 | k + 1, d, i, dist, w => if d < w.length then (if i < (w.getD d []).length then (if 0 ≤ rdOf 0 (w.getD d []) (i : Int) ∧ rdOf 0 (w.getD d []) (i : Int) < N ∧ i < 1000000 ∧ d < 1000000 ∧ (E (rdOf 0 (w.getD d []) (i : Int))).length < 1000000 then
  (if rdOf 0 dist (rdOf 0 (w.getD d []) (i : Int)) ≥ 0 then frRun E N k d (i + 1) dist w else
   (frEdges d (dist.set (rdOf 0 (w.getD d []) (i : Int)).toNat (d : Int)) (E (rdOf 0 (w.getD d []) (i : Int))) w).bind fun w' => frRun E N k d (i + 1) (dist.set (rdOf 0 (w.getD d []) (i : Int)).toNat (d : Int)) w')
  else none) else (if d < 1000000 then frRun E N k (d + 1) 0 dist w else none)) else some dist
def impl_graph_int_from.f (E : Int → List S90) (k : Nat) (N : Int) (starts : List Int) : Option (List Int) := if 0 < N then (slices_Repeat_int_int.f [-1] N).bind fun dist => frRun E N k 0 0 dist [starts] else none
theorem frRun_mono (E : Int → List S90) (N : Int) : ∀ k d i dist w, LeO (frRun E N k d i dist w) (frRun E N (k + 1) d i dist w)
 | 0, _, _, _, _ => fun r h => by simp [frRun] at h
 | k + 1, d, i, dist, w => by
  rw [frRun.eq_2, frRun.eq_2]
  exact LeO.ite (LeO.ite (LeO.ite (LeO.ite (frRun_mono E N k _ _ _ _) (LeO.bind (LeO.refl _) (fun _ => frRun_mono E N k _ _ _ _))) (LeO.refl _)) (LeO.ite (frRun_mono E N k _ _ _ _) (LeO.refl _))) (LeO.refl _)
theorem impl_graph_int_from.mono (E : Int → List S90) : ∀ N starts k, LeO (impl_graph_int_from.f E k N starts) (impl_graph_int_from.f E (k + 1) N starts) := fun N starts k => LeO.ite (LeO.bind (LeO.refl _) (fun _ => frRun_mono E N k _ _ _ _)) (LeO.refl _)
theorem fr_own {g n c k : Nat} (h : some k = (Value.slice (some ⟨g, 0, none⟩) n c).ownBlock) : k = g := by simpa [Value.ownBlock] using h
theorem fr_below {w W w' : World} {b : Nat} (hB : Below w.heap.size w W) (hg : W.grownBy w' (some b)) (hb : w.heap.size ≤ b) : Below w.heap.size w w' :=
 ⟨hg.os.trans hB.os, hg.tape.trans hB.tape, hg.output.trans hB.output, Nat.le_trans hB.size hg.size, fun k hk => (hg.block k (Nat.lt_of_lt_of_le hk hB.size) (fun e => by injection e with e; omega)).trans (hB.block k hk)⟩
theorem fr_lit {W : World} {base : Nat} {ok okp : Nat → Prop} {v : Value} {x : List Int} (hR : (Kd.int .i64).R 3 W base okp v x) (hok : ∀ k, okp k → ok k) (hf : ok W.heap.size) (hb : base ≤ W.heap.size) :
  Kd.S (Kd.slice 3 (Kd.int .i64)) 22 (W.alloc (.cells #[v] 22)) base ok (.slice (some ⟨W.heap.size, 0, none⟩) 1 1) [x] := by
 obtain ⟨f, hr⟩ := Kd.reps_tag (d := Kd.slice 3 (Kd.int .i64)) (w := W) (base := base) (ok := ok) (xs := [x]) (inner := [v]) (fun j k => j = 0 ∧ okp k) (by rintro i j k ⟨rfl, _⟩ ⟨rfl, _⟩; rfl) (fun j k h => hok k h.2) rfl (fun j y hj => by
  cases j with
  | zero =>
   obtain rfl := Option.some.inj hj
   exact ⟨v, rfl, Kd.R_mono hR (fun k hk => ⟨rfl, hk⟩)⟩
  | succ j => simp at hj)
 refine ⟨f, fun k hk => ?_, [v], ?_, ?_⟩
 ·have : W.heap.size = k := by simpa [Value.ownBlock] using hk
  subst this
  exact hf
 ·have h2 := World.ownsRow_lit (base := base) (e := 22) (size := 1) W #[v] 1 hb (by simp [maxLen]) (by simp)
  have h3 : (W.alloc (.cells #[v] 22)).ownsRow base 22 1 (.slice (some ⟨W.heap.size, 0, none⟩) 1 1) 1 [v] := by simpa using h2
  exact h3
 ·refine hr.imp_ (fun p c hp => Kd.M_mono _ (fun k hk => ⟨hk.1, fun he => ?_⟩) (Kd.M_below (Kd.M_bound _ hp) (ba_ (Below.refl _ _) _)))
  have h3 : k = W.heap.size := by simpa [Value.ownBlock] using he
  have := hk.2.2.1
  omega
theorem fr_lend {g base n cap : Nat} {ok : Nat → Prop} {W : World} {xs : List (List Int)} (h : Kd.S (Kd.slice 3 (Kd.int .i64)) 22 W base ok (.slice (some ⟨g, 0, none⟩) n cap) xs) (i : Int) (h0 : 0 ≤ i) (h1 : i < n) :
  ∃ (vi : Value) (oki : Nat → Prop), W.cell? ⟨g, i.toNat, none⟩ = some vi ∧ W.frozen? ⟨g, i.toNat, none⟩ = false ∧ Kd.R (Kd.int .i64) 3 W base oki vi (xs.getD i.toNat []) ∧ (∀ k, oki k → ok k ∧ k ≠ g) ∧ Kd.H (Kd.slice 3 (Kd.int .i64)) 22 W base ok (.slice (some ⟨g, 0, none⟩) n cap) xs i oki [vi] := by
 obtain ⟨oki, c, hc, hM, hcell, hfr, hok, hH⟩ := Kd.S_elem h [] i h0 h1
 obtain ⟨vi, rfl, hR⟩ := hM
 refine ⟨vi, oki, ?_, ?_, hR, hok, hH⟩
 ·have := hcell 0 vi rfl
  simpa [Kd.slice] using this
 ·have := hfr 0
  simpa [Kd.slice] using this
theorem fr_back {g base n cap gd : Nat} {W w3 : World} {xs : List (List Int)} {i : Int} {oki : Nat → Prop} {vi v3 : Value} {l l' : List Int} (hH : Kd.H (Kd.slice 3 (Kd.int .i64)) 22 W base (fun k => k ≠ gd) (.slice (some ⟨g, 0, none⟩) n cap) xs i oki [vi]) (h0 : 0 ≤ i) (h1 : i < n) (hgd : gd < W.heap.size)
  (hR : Kd.R (Kd.int .i64) 3 W base oki vi l) (hg : W.grownBy w3 vi.ownBlock) (hat : v3.ownBlock = vi.ownBlock ∨ ∃ b, v3.ownBlock = some b ∧ W.heap.size ≤ b) (h3 : Kd.R (Kd.int .i64) 3 w3 base (fun _ => True) v3 l') :
  Kd.S (Kd.slice 3 (Kd.int .i64)) 22 (w3.setCell ⟨g, i.toNat, none⟩ v3) base (fun k => k ≠ gd) (.slice (some ⟨g, 0, none⟩) n cap) (xs.set i.toNat l') ∧ w3.grownBy (w3.setCell ⟨g, i.toNat, none⟩ v3) (some g) := by
 have hH2 := Kd.H_grown (Kd.H_widen hH) hg (fun k hk => .inl (hR.1 k hk))
 have h4 := Kd.S_seg0 (seg := [v3]) (j := 0) (x' := l') (okp := fun k => some k = v3.ownBlock) hH2 h0 h1 (Nat.le_refl _) ⟨v3, rfl, Kd.R_tight rfl h3⟩ (fun k hk => ?_)
 ·have e : i.toNat * (Kd.slice 3 (Kd.int .i64)).sz + 0 = i.toNat := by show i.toNat * 1 + 0 = i.toNat; omega
  rw [e] at h4
  exact h4
 ·rcases hat with e | ⟨b, e, hb⟩
  ·exact .inl (hR.1 k (by rw [← e, ← hk]))
  ·have hkb : k = b := by rw [e] at hk; exact Option.some.inj hk
   subst hkb
   exact .inr ⟨by omega, hb⟩
def frCl (cl : Array Value) (es : List S90) : Prop := ∀ (i : Int), 0 ≤ i → i < (es.length : Int) → ∃ (A2 : Option Addr) (n2 c2 : Nat), cl[i.toNat * 3]? = some (.int .i64 (rd_T90 es i).f0) ∧ cl[i.toNat * 3 + 1]? = some (.int .i64 (rd_T90 es i).f1) ∧ cl[i.toNat * 3 + 2]? = some (.slice A2 n2 c2)
theorem frCl_of {W : World} {base g n cap : Nat} {ok : Nat → Prop} {es : List S90} {cl : Array Value} {t : Nat} (h : Kd.S k90 90 W base ok (.slice (some ⟨g, 0, none⟩) n cap) es) (hb : W.heap[g]? = some (.cells cl t (0, 0))) : frCl cl es := by
 intro i h0 h1
 obtain ⟨hn, -, hC⟩ := Kd.S_reads' h
 obtain ⟨ad, c, e, -, hK, hcell⟩ := Kd.C_get hC z90 i h0 h1
 obtain rfl := Option.some.inj e
 obtain ⟨A2, c2, rfl, -, -⟩ := k90_open hK
 have hc : ∀ j, W.cell? ⟨g, j, none⟩ = cl[j]? := fun j => blk_cell hb j
 have hsz : k90.sz = 3 := rfl
 refine ⟨A2, (es.getD i.toNat z90).f2.length, c2, ?_, ?_, ?_⟩
 ·have h_ := hcell 0 _ rfl
  rw [add_at, hsz, Nat.zero_add, Nat.add_zero, hc] at h_; exact h_
 ·have h_ := hcell 1 _ rfl
  rw [add_at, hsz, Nat.zero_add, hc] at h_; exact h_
 ·have h_ := hcell 2 _ rfl
  rw [add_at, hsz, Nat.zero_add, hc] at h_; exact h_
def frEd (W : World) (Ae : Option Addr) (es : List S90) : Prop := es.length = 0 ∨ ∃ ge cl, Ae = some ⟨ge, 0, none⟩ ∧ W.heap[ge]? = some (.cells cl 90 (0, 0)) ∧ frCl cl es
theorem frEd_of {W : World} {base c : Nat} {ok : Nat → Prop} {Ae : Option Addr} {es : List S90} (h : Kd.S k90 90 W base ok (.slice Ae es.length c) es) : frEd W Ae es := by
 rcases Nat.eq_zero_or_pos es.length with h0 | h0
 ·exact .inl h0
 ·obtain ⟨g, cap, e, -, -, cl, hc⟩ := Kd.S_form h h0
  injection e with e1 _ e3
  subst e1
  subst e3
  exact .inr ⟨g, cl, rfl, hc, frCl_of h hc⟩
def impl_graph_int_from.T17 : Bool × List (List Nat × List Nat) := (true, [([], []), ([], []), ([], []), ([2], [2]), ([1, 3], [1, 3]), ([], []), ([], []), ([], []), ([7], [7]), ([6, 8], [6, 8]), ([5, 9], [5, 9]), ([10], [10]), ([], []), ([12], [12]), ([13], [13]), ([11, 14], [11, 14]), ([0, 4, 0, 1, 2, 3, 4, 5, 6, 7, 8, 9, 10, 11, 12, 13, 14, 15], [0, 4]), ([16, 15, 15, 0, 1, 2, 3, 4, 5, 6, 7, 8, 9, 10, 11, 12, 13, 14, 15], [15, 16])])
def impl_graph_int_from.B17 : List Nat := [0, 0, 0, 4, 14, 0, 0, 0, 128, 448, 992, 2016, 0, 4096, 12288, 32736, 65535, 131071]
theorem impl_graph_int_from.T17_ : rtab .any (opsOf Try.f80 17) = impl_graph_int_from.T17 := by kernel_rfl
theorem impl_graph_int_from.B17_ : waitsOk impl_graph_int_from.T17.2 impl_graph_int_from.B17 = true := by kernel_rfl
theorem impl_graph_int_from.calls (fo : Nat) (cb : Array Value) (N : Int) (E : Int → List S90) (w w0 : World) (ee : ∀ args w, (callFunc fo args).run Try.prog w = .ok (.enter fo args) w) (hE : GOut fo cb N E w) (k : Nat) (starts r : List Int) (bs cs : Nat) (hb0 : Below w.heap.size w w0) (gx : Nat) (cx : Array Value) (hX : w0.heap[gx]? = some (.cells cx 67 (0, 0)))
  (hs : Kd.R (Kd.int .i64) 3 w0 w.heap.size (fun _ => True) (.slice (some ⟨bs, 0, none⟩) starts.length cs) starts) (h : impl_graph_int_from.f E k N starts = some r) :
  Calls Try.prog 80 #[.agg #[.int .i64 N, .func (.func fo) #[] cb], .slice (some ⟨bs, 0, none⟩) starts.length cs] w0 fun e w' => ∃ v0_ : Value, e = .returned v0_ ∧ Kd.R (Kd.int .i64) 3 w' w.heap.size (fun _ => True) v0_ r ∧ w'.heap[gx]? = some (.cells cx 67 (0, 0)) ∧ Below w.heap.size w w' := by
 have hu := Try.underlying67
 have hu2 := Try.underlying90
 unfold impl_graph_int_from.f at h
 by_cases hN0 : 0 < N
 rotate_left
 ·rw [if_neg hN0] at h; exact absurd h (by simp)
 rw [if_pos hN0] at h
 obtain ⟨dist, h1, h2⟩ := Option.bind_eq_some_iff.mp h
 have hN : 0 < N ∧ N ≤ 1000000 ∧ dist.length = N.toNat := by
  unfold slices_Repeat_int_int.f at h1
  rw [if_pos (by rfl), if_pos (by omega)] at h1
  by_cases c1 : N ≤ 1000000
  ·rw [if_pos c1] at h1
   obtain rfl := Option.some.inj h1
   exact ⟨hN0, c1, by simp⟩
  ·rw [if_neg c1] at h1; exact absurd h1 (by simp)
 obtain ⟨DL, hDL⟩ : ∃ DL, DL = dist.length := ⟨_, rfl⟩
 have A1 := ak_ fun (W : World) (A : Option Addr) (c : Nat) (h2 : Kd.C (Kd.int .i64) W A 1 [-1]) (h3 : 1 ≤ c) => slices_Repeat_int_int.calls A c [-1] N dist W h2 h3 h1
 have H := ak_ h2
 have HN := ak_ (And.intro hN.1 (And.intro hN.2.1 (hDL.trans hN.2.2)))
 have HDL := ak_ hDL
 have HE := ak_ hE
 have HB := ak_ hb0
 have HS := ak_ hs
 have BX := ak_ hX
 clear h h1 h2 hN hE hb0 hs hN0 hDL hX
 go_enter Try.func80, Try.ntmps80
 go_wp2_with (first | ((with_reducible refine gate_dst (N := 2) rfl ?_); refine box_event ?hg (N := 2) ?hd (cs := #[.int .i64 N, .func (.func fo) #[] cb]) (t := 67) ?hr ?_; (case hd => rfl); (case hg => rfl); (case hr => go_simp <;> rfl); intro gb2 hg w2 hbox hb; have nx_ := ak_ (blk_below BX.out hb); have ns_ := ak_ (Kd.R_below HS.out hb); have nb_ := ak_ (bs_ (bb_ HB.out) hb); have nc_ := ak_ hbox; have nd_ := ak_ ((by rw [hg]; exact (bz_ (bb_ HB.out)) : w.heap.size ≤ gb2)); clear BX HS HB hb hbox hg; have BX := nx_; have HS := ns_; have HB := nb_; have BK2 := nc_; have GE2 := nd_; clear nx_ ns_ nb_ nc_ nd_; have hz2_0 := (blk_cell BK2.out 0); have hf2_0 := (blk_frozen BK2.out 0); simp at hz2_0; have hz2_1 := (blk_cell BK2.out 1); have hf2_1 := (blk_frozen BK2.out 1); simp at hz2_1; skip) | ((with_reducible refine gate_dst (N := 12) rfl ?_); refine Kd.R_lit (Kd.int .i64) _ 3 ?hg (N := 12) ?hd (xs := ([-1] : List Int)) (inner := [.int .i64 (-1)]) (ok := fun _ => True) (okp := fun _ => True) ?hr ?hp (fun _ hk => hk) trivial (Below.refl _ _) (Nat.le_refl _) (by simp) ?_; (case hd => rfl); (case hg => rfl); (case hr => go_simp <;> rfl); (case hp => exact (Reps.one (show Kd.M (Kd.int .i64) _ _ _ (-1) [.int .i64 (-1)] from rfl) (Reps.none _ _))); intro v12 w12 ho hb hg_ hnew_; clear hg_ hnew_; obtain ⟨A12, c12, rfl⟩ := Kd.R_slice ho; have HL := ak_ ho; have HBS := ak_ (Kd.R_lt (Kd.R_below (Kd.pR HS.out) hb) bs rfl : bs < w12.heap.size); replace BK2 := ak_ (blk_below (pk BK2.out) hb); replace HB := ak_ (bs_ (bb_ HB.out) hb); replace HS := ak_ (Kd.R_below (Kd.pR HS.out) hb); replace BX := ak_ (blk_below (pk BX.out) hb); clear hb ho; have hq2_0 := (blk_cell BK2.out 0); have hq2_1 := (blk_cell BK2.out 1); simp at hq2_0; simp at hq2_1) | (go_at_call 99; refine (A1.out _ A12 c12 (Kd.R_reads' HL.out).2.2 (Kd.R_reads' HL.out).2.1).mono ?_; rintro e w15 ⟨v15, rfl, ho, hb⟩; obtain ⟨gd, cd, rfl, hgb, hgl, -⟩ := Kd.R_form ho (by have := HN.out; have := HDL.out; omega); have HGD := ak_ (And.intro (Nat.lt_of_lt_of_le HBS.out hgb : bs < gd) (And.intro hgl (Nat.le_trans (bz_ (bb_ HB.out)) hgb : w.heap.size ≤ gd))); have HD := ak_ (Kd.R_lower (Kd.R_mono (Kd.R_tight rfl ho) (ok' := fun k => k = gd) (fun k hk => (by simpa [Value.ownBlock] using hk))) (bz_ (bb_ HB.out))); rw [← HDL.out] at HD; clear hgb hgl ho HL HBS; replace BK2 := ak_ (blk_below (pk BK2.out) hb); replace HB := ak_ (bs_ (bb_ HB.out) hb); replace HS := ak_ (Kd.R_below (Kd.pR HS.out) hb); replace BX := ak_ (blk_below (pk BX.out) hb); clear hb; have hq2_0 := (blk_cell BK2.out 0); have hq2_1 := (blk_cell BK2.out 1); simp at hq2_0; simp at hq2_1; rw [← HDL.out]))
 have HW := ak_ (fr_lit (ok := fun k => k ≠ gd) (Kd.R_mono (Kd.R_tight rfl (Kd.pR HS.out)) (ok' := fun k => k ≠ gd) (fun k hk => (by have e_ := fr_own hk; have := HGD.out; omega))) (fun _ hk => hk) (Nat.ne_of_gt HGD.out.2.1) (bz_ (bb_ HB.out)))
 clear HS
 go_loopg [6, 7] k (fun gg v6 v7 wr => ∃ (d : Nat) (dist : List Int) (ww : List (List Int)) (gw cw : Nat), v6 = .slice (some ⟨gw, 0, none⟩) ww.length cw ∧ v7 = .int .i64 (d : Int) ∧ Aside0 (frRun E N gg d 0 dist ww = some r) ∧ Aside0 (dist.length = DL) ∧ Aside0 (Kd.R (Kd.int .i64) 3 wr w.heap.size (fun k => k = gd) (.slice (some ⟨gd, 0, none⟩) DL cd) dist) ∧ Aside0 (Kd.S (Kd.slice 3 (Kd.int .i64)) 22 wr w.heap.size (fun k => k ≠ gd) (.slice (some ⟨gw, 0, none⟩) ww.length cw) ww) ∧ Aside0 (wr.heap[gb2]? = some (.cells #[.int .i64 N, .func (.func fo) #[] cb] 67 (0, 0))) ∧ Aside0 (wr.heap[gx]? = some (.cells cx 67 (0, 0))) ∧ Aside0 (Below w.heap.size w wr))
 case atStart => exact ⟨0, dist, [starts], w15.heap.size, 1, rfl, rfl, H, ⟨HDL.out.symm⟩, ⟨Kd.pR HD.out⟩, ⟨HW.out⟩, ⟨pk BK2.out⟩, ⟨pk BX.out⟩, ⟨(bb_ HB.out)⟩⟩
 case round =>
  clear H HDL HD HW BK2 BX HB
  obtain ⟨d, dist, ww, gw, cw, rfl, rfl, H, HL, HD, HW, BK2, BX, HB⟩ := hrel
  cases gk with
  | zero => exact absurd H.out (by simp [frRun])
  | succ m =>
   by_cases hd : d < ww.length
   ·have q1 : decide ((d : Int) < (ww.length : Int)) = true := decide_eq_true (by omega)
    have q1n : decide (d < ww.length) = true := decide_eq_true hd
    have HDW := ak_ hd
    clear hd
    go_wp2
    go_loopg [6, 8] (m + 1) (fun gg v6 v8 wr => ∃ (i : Nat) (dist : List Int) (ww : List (List Int)) (gw cw : Nat), v6 = .slice (some ⟨gw, 0, none⟩) ww.length cw ∧ v8 = .int .i64 (i : Int) ∧ Aside0 (gg ≤ m + 1) ∧ Aside0 (frRun E N gg d i dist ww = some r) ∧ Aside0 (dist.length = DL) ∧ Aside0 (d < ww.length) ∧ Aside0 (Kd.R (Kd.int .i64) 3 wr w.heap.size (fun k => k = gd) (.slice (some ⟨gd, 0, none⟩) DL cd) dist) ∧ Aside0 (Kd.S (Kd.slice 3 (Kd.int .i64)) 22 wr w.heap.size (fun k => k ≠ gd) (.slice (some ⟨gw, 0, none⟩) ww.length cw) ww) ∧ Aside0 (wr.heap[gb2]? = some (.cells #[.int .i64 N, .func (.func fo) #[] cb] 67 (0, 0))) ∧ Aside0 (wr.heap[gx]? = some (.cells cx 67 (0, 0))) ∧ Aside0 (Below w.heap.size w wr))
    case atStart => exact ⟨0, dist, ww, gw, cw, rfl, rfl, ⟨Nat.le_refl _⟩, H, HL, HDW, ⟨Kd.pR HD.out⟩, ⟨Kd.pS HW.out⟩, ⟨pk BK2.out⟩, ⟨pk BX.out⟩, ⟨(bb_ HB.out)⟩⟩
    case round =>
     clear H HL HD HW BK2 BX HB HDW q1 q1n
     obtain ⟨i, dist, ww, gw, cw, rfl, rfl, HM, H, HL, HDW, HD, HW, BK2, BX, HB⟩ := hrel
     cases gk with
     | zero => exact absurd H.out (by simp [frRun])
     | succ m2 =>
      have h := H.out
      simp only [frRun] at h
      rw [if_pos HDW.out] at h
      obtain ⟨vi, oki, hcell, hfrz, hRi, hok, hH⟩ := fr_lend HW.out (d : Int) (by omega) (by have := HDW.out; omega)
      rw [Int.toNat_natCast] at hcell hfrz hRi
      have d0 : (0 : Int) ≤ (d : Int) := by omega
      have d1 : (d : Int) < (ww.length : Int) := by have := HDW.out; omega
      replace d0 := eq_true d0
      replace d1 := eq_true d1
      obtain ⟨row, hrow⟩ : ∃ row, row = ww.getD d [] := ⟨_, rfl⟩
      rw [← hrow] at h hRi
      have HROW := ak_ hrow
      clear hok hH hfrz hrow
      by_cases hi : i < row.length
      ·obtain ⟨b, ci, rfl, -, -, -⟩ := Kd.R_form hRi (by omega)
       obtain ⟨hx, -⟩ := Kd.R_celln 0 hRi (i : Int) (by omega) (by omega)
       rw [Int.toNat_natCast] at hx
       rw [if_pos hi] at h
       obtain ⟨s, hs⟩ : ∃ s, s = rdOf 0 row (i : Int) := ⟨_, rfl⟩
       rw [← hs] at h hx
       by_cases hc : 0 ≤ s ∧ s < N ∧ i < 1000000 ∧ d < 1000000 ∧ (E s).length < 1000000
       rotate_left
       ·rw [if_neg hc] at h; exact absurd h (by simp)
       rw [if_pos hc] at h
       have i1 : decide ((i : Int) < (row.length : Int)) = true := decide_eq_true (by omega)
       have i1n : decide (i < row.length) = true := decide_eq_true hi
       have i0 : ((0 : Int) ≤ (i : Int)) = True := eq_true (by omega)
       have i1p : ((i : Int) < (row.length : Int)) = True := eq_true (by omega)
       have s0 : ((0 : Int) ≤ s) = True := eq_true hc.1
       have s1 : (s < (DL : Int)) = True := eq_true (by have := HN.out; omega)
       obtain ⟨hxs, hfs⟩ := Kd.R_celln 0 HD.out s hc.1 (by have := HN.out; omega)
       have hw8 : IntKind.i64.wrap ((i : Int) + 1) = ((i + 1 : Nat) : Int) := by rw [IntWalk.i64_in _ ⟨by omega, by omega⟩]; omega
       have HC := ak_ hc
       clear hi hc hs hRi
       by_cases hv : rdOf 0 dist s ≥ 0
       ·have v1 : decide (rdOf 0 dist s ≥ 0) = true := decide_eq_true hv
        have v2 : decide (0 ≤ rdOf 0 dist s) = true := decide_eq_true hv
        rw [if_pos hv] at h
        have H2 := ak_ h
        clear h hv H
        go_wp2
        go_roundg m2
        case measure => omega
        case rel => exact ⟨i + 1, dist, ww, gw, cw, rfl, (by first | rfl | (simp; done)), ⟨by have := HM.out; omega⟩, H2, HL, HDW, ⟨Kd.pR HD.out⟩, ⟨Kd.pS HW.out⟩, ⟨pk BK2.out⟩, ⟨pk BX.out⟩, ⟨(bb_ HB.out)⟩⟩
       ·have v1 : decide (rdOf 0 dist s ≥ 0) = false := decide_eq_false hv
        have v2 : decide (0 ≤ rdOf 0 dist s) = false := decide_eq_false hv
        rw [if_neg hv] at h
        obtain ⟨wf, h1, h2⟩ := Option.bind_eq_some_iff.mp h
        have H1 := ak_ h1
        have H2 := ak_ h2
        have hput := Kd.R_putg HD.out s (d : Int)
        have HPUT := ak_ hput
        obtain ⟨dist2, hd2⟩ : ∃ dist2, dist2 = dist.set s.toNat (d : Int) := ⟨_, rfl⟩
        have hL2 : dist2.length = DL := by rw [hd2, List.length_set]; exact HL.out
        rw [← hd2] at H1 H2 HPUT
        have HL2 := ak_ hL2
        clear h h1 h2 hv H hput hd2 hL2
        go_upto_region 11 with (fail)
        generalize hw : wr.setCell ⟨gd, s.toNat, none⟩ (.int .i64 (d : Int)) = w10
        have hg : wr.grownBy w10 (some gd) := (by rw [← hw]; exact HPUT.out.2)
        replace BK2 := ak_ (blk_grown BK2.out hg (Kd.R_ne HD.out BK2.out (by decide))); replace HW := ak_ (Kd.S_grown HW.out hg (fun k hk e => hk (Option.some.inj e))); replace HB := ak_ ((show Below w.heap.size w w10 from (by rw [← hw]; exact below_set HB.out HGD.out.2.2))); replace BX := ak_ (blk_grown BX.out hg (Kd.R_ne HD.out BX.out (by decide))); replace HD := ak_ ((show Kd.R (Kd.int .i64) 3 w10 w.heap.size (fun k => k = gd) (.slice (some ⟨gd, 0, none⟩) DL cd) dist2 from (by rw [← hw]; exact HPUT.out.1))); clear hg hw HPUT
        clear hcell hx hxs hfs
        have hc2_0 := (blk_cell BK2.out 0)
        have hc2_1 := (blk_cell BK2.out 1)
        simp at hc2_0
        simp at hc2_1
        go_wp2_with (go_at_fn fo; refine (HE.out _ s (bb_ HB.out) HC.out.1 HC.out.2.1).mono ?_; rintro e w11 ⟨v11, rfl, ho, hb⟩; obtain ⟨Ae, ce, rfl⟩ := Kd.S_slice ho; have HED := ak_ (frEd_of ho); replace BK2 := ak_ (blk_below (pk BK2.out) hb); replace HW := ak_ (Kd.S_below (Kd.pS HW.out) hb); replace HB := ak_ (bs_ (bb_ HB.out) hb); replace HD := ak_ (Kd.R_below (Kd.pR HD.out) hb); replace BX := ak_ (blk_below (pk BX.out) hb); clear hb ho)
        go_loopg [6, 54] (E s).length (fun gg v6 v54 wr2 => ∃ (j : Nat) (w1 : List (List Int)) (gw cw : Nat), v6 = .slice (some ⟨gw, 0, none⟩) w1.length cw ∧ v54 = .int .i64 (j : Int) ∧ Aside0 (j ≤ (E s).length ∧ (E s).length - j ≤ gg) ∧ Aside0 (frEdges d dist2 ((E s).drop j) w1 = some wf) ∧ Aside0 (d < w1.length) ∧ Aside0 (Kd.R (Kd.int .i64) 3 wr2 w.heap.size (fun k => k = gd) (.slice (some ⟨gd, 0, none⟩) DL cd) dist2) ∧ Aside0 (Kd.S (Kd.slice 3 (Kd.int .i64)) 22 wr2 w.heap.size (fun k => k ≠ gd) (.slice (some ⟨gw, 0, none⟩) w1.length cw) w1) ∧ Aside0 (frEd wr2 Ae (E s)) ∧ Aside0 (wr2.heap[gb2]? = some (.cells #[.int .i64 N, .func (.func fo) #[] cb] 67 (0, 0))) ∧ Aside0 (wr2.heap[gx]? = some (.cells cx 67 (0, 0))) ∧ Aside0 (Below w.heap.size w wr2))
        case atStart => exact ⟨0, ww, gw, cw, rfl, rfl, ⟨⟨Nat.zero_le _, Nat.le_refl _⟩⟩, H1, HDW, ⟨Kd.pR HD.out⟩, ⟨Kd.pS HW.out⟩, ⟨HED.out⟩, ⟨pk BK2.out⟩, ⟨pk BX.out⟩, ⟨(bb_ HB.out)⟩⟩
        case round =>
         clear H1 HDW HD HW HED BK2 BX HB
         obtain ⟨j, w1, gw, cw, rfl, rfl, HJ, H1, HDW, HD, HW, HED, BK2, BX, HB⟩ := hrel
         have hL2 := HL2.out
         by_cases hj : j < (E s).length
         ·have j1 : decide ((j : Int) < ((E s).length : Int)) = true := decide_eq_true (by omega)
          have j1n : decide (j < (E s).length) = true := decide_eq_true hj
          have j0p : ((0 : Int) ≤ (j : Int)) = True := eq_true (by omega)
          have j1p : ((j : Int) < ((E s).length : Int)) = True := eq_true (by omega)
          rcases HED.out with h0 | ⟨ge, cl, rfl, hbe, hcl⟩
          ·exact absurd h0 (by omega)
          have BKE := ak_ hbe
          have HCL := ak_ hcl
          obtain ⟨A2, n2, c2, he0, he1, he2⟩ := hcl (j : Int) (by omega) (by omega)
          rw [Int.toNat_natCast] at he0 he1 he2
          rw [← blk_cell hbe] at he0 he1 he2
          obtain ⟨e, he⟩ : ∃ e, e = rd_T90 (E s) (j : Int) := ⟨_, rfl⟩
          rw [← he] at he0 he1
          have h := H1.out
          rw [List.drop_eq_getElem_cons hj, show (E s)[j] = e from by rw [he]; unfold rd_T90; rw [Int.toNat_natCast, List.getD_eq_getElem?_getD, List.getElem?_eq_getElem hj]; rfl] at h
          simp only [frEdges] at h
          have HE1 := ak_ he
          clear hbe hcl he H1 HED
          by_cases hc : 0 ≤ e.f0 ∧ e.f0 < (dist2.length : Int)
          rotate_left
          ·rw [if_neg hc] at h; exact absurd h (by simp)
          rw [if_pos hc] at h
          rw [hL2] at hc
          obtain ⟨hxt, -⟩ := Kd.R_celln 0 HD.out e.f0 hc.1 (by omega)
          have t0 := eq_true hc.1
          have t1 := eq_true hc.2
          have hw54 : IntKind.i64.wrap ((j : Int) + 1) = ((j + 1 : Nat) : Int) := by have := HC.out; rw [IntWalk.i64_in _ ⟨by omega, by omega⟩]; omega
          clear hc
          have HJJ := ak_ hj
          clear hj
          go_upto_region 14 with (fail)
          obtain ⟨w14, hw14⟩ : ∃ W, W = wr.alloc (.cells #[.int .i64 e.f0, .int .i64 e.f1, .slice A2 n2 c2] 90) := ⟨_, rfl⟩
          have hb : Below wr.heap.size wr w14 := (by rw [hw14]; exact ba_ (Below.refl _ _) _)
          have hbk : w14.heap[wr.heap.size]? = some (.cells #[.int .i64 e.f0, .int .i64 e.f1, .slice A2 n2 c2] 90 (0, 0)) := (by rw [hw14]; exact blk_new wr _)
          have hgw : w.heap.size ≤ wr.heap.size := bz_ HB.out
          rw [← hw14]
          clear hw14 he0 he1 he2 hxt
          replace BK2 := ak_ (blk_below BK2.out hb); replace BKE := ak_ (blk_below BKE.out hb); replace HW := ak_ (Kd.S_below HW.out hb); replace HD := ak_ (Kd.R_below HD.out hb); replace HB := ak_ (bs_ HB.out hb); replace BX := ak_ (blk_below BX.out hb); clear hb
          obtain ⟨gb11, hg11⟩ : ∃ g, g = wr.heap.size := ⟨_, rfl⟩
          rw [← hg11] at hbk ⊢
          have BK11 := ak_ hbk
          clear hbk hg11 hgw
          have hz0 := (blk_cell BK11.out 0)
          have hz1 := (blk_cell BK11.out 1)
          simp at hz0
          simp at hz1
          obtain ⟨hxt, -⟩ := Kd.R_celln 0 HD.out e.f0 (of_eq_true t0) (by have := of_eq_true t1; omega)
          by_cases hv : rdOf 0 dist2 e.f0 ≥ 0
          ·have v1 : decide (rdOf 0 dist2 e.f0 ≥ 0) = true := decide_eq_true hv
           have v2 : decide (0 ≤ rdOf 0 dist2 e.f0) = true := decide_eq_true hv
           rw [if_pos hv] at h
           have H1 := ak_ h
           clear h hv
           go_wp2
           go_roundg ((E s).length - (j + 1))
           case measure => have := HJ.out; have := HJJ.out; omega
           case rel => exact ⟨j + 1, w1, gw, cw, rfl, (by first | rfl | (simp; done)), ⟨⟨by have := HJJ.out; omega, Nat.le_refl _⟩⟩, H1, HDW, ⟨Kd.pR HD.out⟩, ⟨Kd.pS HW.out⟩, ⟨.inr ⟨ge, cl, rfl, pk BKE.out, HCL.out⟩⟩, ⟨pk BK2.out⟩, ⟨pk BX.out⟩, ⟨(bb_ HB.out)⟩⟩
          ·have v1 : decide (rdOf 0 dist2 e.f0 ≥ 0) = false := decide_eq_false hv
           have v2 : decide (0 ≤ rdOf 0 dist2 e.f0) = false := decide_eq_false hv
           rw [if_neg hv] at h
           by_cases hc : 1 ≤ e.f1 ∧ (d : Int) + e.f1 < 1000000 ∧ ((frPad (d + e.f1.toNat) w1).getD (d + e.f1.toNat) []).length < 1000000 ∧ w1.length < 1000000
           rotate_left
           ·rw [if_neg hc] at h; exact absurd h (by simp)
           rw [if_pos hc] at h
           obtain ⟨q, hq⟩ : ∃ q, q = d + e.f1.toNat := ⟨_, rfl⟩
           rw [← hq] at h hc
           have hqi : (d : Int) + e.f1 = (q : Int) := by omega
           have hwq : IntKind.i64.wrap ((d : Int) + e.f1) = (q : Int) := by rw [hqi]; exact IntWalk.i64_in _ ⟨by omega, by omega⟩
           have H1 := ak_ h
           have HC2 := ak_ (And.intro (by omega : q < 1000000) (And.intro hc.2.2.1 hc.2.2.2))
           clear h hv hc hq hqi
           go_wp2
           go_loopg [6] (q + 1) (fun gg v6 wr3 => ∃ (t : Nat) (w2 : List (List Int)) (gw cw : Nat), v6 = .slice (some ⟨gw, 0, none⟩) w2.length cw ∧ Aside0 (w2 = w1 ++ List.replicate t [] ∧ (t = 0 ∨ w2.length ≤ q + 1) ∧ q + 1 - w2.length ≤ gg) ∧ Aside0 (Kd.R (Kd.int .i64) 3 wr3 w.heap.size (fun k => k = gd) (.slice (some ⟨gd, 0, none⟩) DL cd) dist2) ∧ Aside0 (Kd.S (Kd.slice 3 (Kd.int .i64)) 22 wr3 w.heap.size (fun k => k ≠ gd) (.slice (some ⟨gw, 0, none⟩) w2.length cw) w2) ∧ Aside0 (wr3.heap[ge]? = some (.cells cl 90 (0, 0))) ∧ Aside0 (wr3.heap[gb11]? = some (.cells #[.int .i64 e.f0, .int .i64 e.f1, .slice A2 n2 c2] 90 (0, 0))) ∧ Aside0 (wr3.heap[gb2]? = some (.cells #[.int .i64 N, .func (.func fo) #[] cb] 67 (0, 0))) ∧ Aside0 (wr3.heap[gx]? = some (.cells cx 67 (0, 0))) ∧ Aside0 (Below w.heap.size w wr3))
           case atStart => exact ⟨0, w1, gw, cw, rfl, ⟨⟨by simp, .inl rfl, by omega⟩⟩, ⟨Kd.pR HD.out⟩, ⟨Kd.pS HW.out⟩, ⟨pk BKE.out⟩, ⟨pk BK11.out⟩, ⟨pk BK2.out⟩, ⟨pk BX.out⟩, ⟨(bb_ HB.out)⟩⟩
           case round =>
            clear HD HW BKE BK11 BK2 BX HB hz0 hz1 hxt
            obtain ⟨t, w2, gw, cw, rfl, HT, HD, HW, BKE, BK11, BK2, BX, HB⟩ := hrel
            have hz0 := (blk_cell BK11.out 0)
            have hz1 := (blk_cell BK11.out 1)
            simp at hz0
            simp at hz1
            by_cases hl : w2.length ≤ q
            ·have l1 : decide ((w2.length : Int) ≤ (q : Int)) = true := decide_eq_true (by omega)
             have l1n : decide (w2.length ≤ q) = true := decide_eq_true hl
             have HLQ := ak_ hl
             clear hl
             go_wp2_with ((with_reducible refine gate_builtin (b := .append) (xs := #[.tmp 71, .tmp 72]) rfl ?_); at_builtin; refine Kd.S_append (Kd.slice 3 (Kd.int .i64)) (w0 := w) w.heap.size rfl (.tmp 71) (.tmp 72) 57 22 (.slice none 0 0) 24 rfl Try.underlying57 info22 rfl (by decide) (by omega) (.slice (some ⟨gw, 0, none⟩) w2.length cw) w2 [] [.slice none 0 0] (fun k => k ≠ gd) (fun _ => False) rfl rfl ?aP (fun _ hk => hk.elim) ?aF ?aO ?aB ?aS ?aL ?_; (case aP => exact ⟨.slice none 0 0, rfl, Kd.R_nil _ _ _ _ _⟩); (case aB => exact (bb_ HB.out)); (case aF => exact (fun k hk => by have h_ := Kd.R_lt HD.out gd rfl; omega)); (case aO => exact Kd.S_mono (Kd.pS HW.out) (fun k hk => ⟨hk, fun h => h⟩)); (case aS => exact bz_ (bb_ HB.out)); (case aL => have := HLQ.out; have := HC2.out; omega); intro v73 w73 ho hb hg hat; obtain ⟨gw3, cw3, rfl, -, -, -⟩ := Kd.S_form ho (by simp); replace BK2 := ak_ (blk_grown (pk BK2.out) hg (Kd.S_ne HW.out BK2.out (by decide))); replace BKE := ak_ (blk_grown (pk BKE.out) hg (Kd.S_ne HW.out BKE.out (by decide))); replace BK11 := ak_ (blk_grown (pk BK11.out) hg (Kd.S_ne HW.out BK11.out (by decide))); replace HD := ak_ (Kd.R_grown (Kd.pR HD.out) hg (fun k hk => by rw [hk]; exact Kd.S_away HW.out (fun k hk => hk))); replace HB := ak_ (hb); replace BX := ak_ (blk_grown (pk BX.out) hg (Kd.S_ne HW.out BX.out (by decide))); replace HW := ak_ (ho); clear hg hat)
             go_roundg (q + 1 - (w2.length + 1))
             case measure => have := HT.out; have := HLQ.out; omega
             case rel => exact ⟨t + 1, w2 ++ [[]], gw3, cw3, (by rw [List.length_append]; rfl), ⟨⟨by rw [HT.out.1, List.append_assoc, ← List.replicate_succ'], .inr (by have := HLQ.out; rw [List.length_append, List.length_singleton]; omega), by rw [List.length_append, List.length_singleton]; omega⟩⟩, ⟨Kd.pR HD.out⟩, ⟨Kd.pS HW.out⟩, ⟨pk BKE.out⟩, ⟨pk BK11.out⟩, ⟨pk BK2.out⟩, ⟨pk BX.out⟩, ⟨(bb_ HB.out)⟩⟩
            ·have l1 : decide ((w2.length : Int) ≤ (q : Int)) = false := decide_eq_false (by omega)
             have l1n : decide (w2.length ≤ q) = false := decide_eq_false hl
             have hw2 : w2 = frPad q w1 := frPad_of HT.out.1 (by have := HT.out.2.1; omega) (by omega)
             have HW2 := ak_ hw2
             have q0 : ((0 : Int) ≤ (q : Int)) = True := eq_true (by omega)
             have q1p : ((q : Int) < (w2.length : Int)) = True := eq_true (by omega)
             have q1d : decide ((q : Int) < (w2.length : Int)) = true := decide_eq_true (by omega)
             have HQ := ak_ (by omega : q < w2.length)
             clear hl hw2
             go_upto_region 17 with (fail)
             try go_wp2
             replace BK2 := ak_ (k1_ BK2.out); replace BKE := ak_ (k1_ BKE.out); replace BK11 := ak_ (k1_ BK11.out); replace HD := ak_ (Kd.R_drew HD.out); replace HW := ak_ (Kd.S_drew HW.out); replace HB := ak_ (b1_ HB.out); replace BX := ak_ (k1_ BX.out)
             obtain ⟨vi, oki, hcell, hfrz, hRi, hok, hH⟩ := fr_lend HW.out (q : Int) (by omega) (by have := HQ.out; omega)
             rw [Int.toNat_natCast] at hcell hfrz hRi
             have NEK := ak_ (And.intro (Kd.S_ne HW.out BKE.out (by decide)) (Kd.S_ne HW.out BK2.out (by decide)))
             have NEX := ak_ (Kd.S_ne HW.out BX.out (by decide))
             have HOK := ak_ hok
             have HH := ak_ hH
             have HRI := ak_ hRi
             clear hok hH hfrz hRi HW
             have HCE := ak_ hcell
             clear hcell hz0 hz1
             refine start_ (n := 18) (S := fun w' => w'.cell? ⟨gb11, 0, none⟩ = some (.int .i64 e.f0) ∧ w'.cell? ⟨gb11, 1, none⟩ = some (.int .i64 e.f1) ∧ w'.cell? ⟨gw, q, none⟩ = some vi) (ds := [17]) (mb_ 18 0) (by kernel_rfl) rfl rfl ⟨(blk_cell BK11.out 0).trans rfl, (blk_cell BK11.out 1).trans rfl, HCE.out⟩ (fun hHeld => ?_); refine with_tabW impl_graph_int_from.T17_ impl_graph_int_from.B17_ (fun HT_ HW_ => ?_)
             generalize wr.drew = w9 at HD BKE BK11 BK2 BX HB HCE HH HRI hHeld ⊢
             refine pu_ 0 74 18 1 ?_
             refine pu_ 1 75 18 3 ?_
             refine pu_ 2 76 18 7 ?_
             refine tk_ 3 77 18 15 ?_ (hy := by rintro w' ⟨s0, s1, s2⟩; go_simp; with_reducible rfl)
             refine pu_ 4 78 18 31 ?_
             refine pu_ 5 79 18 63 ?_
             refine pu_ 6 80 18 127 ?_
             refine pu_ 7 81 18 255 ?_
             refine tk_ 8 82 18 511 ?_ (hy := by rintro w' ⟨s0, s1, s2⟩; go_simp; with_reducible rfl)
             refine pu_ 9 83 18 1023 ?_
             refine pu_ 10 84 18 2047 ?_
             refine tk_ 11 85 18 4095 ?_ (hy := by rintro w' ⟨s0, s1, s2⟩; go_simp; with_reducible rfl)
             refine pu_ 12 86 18 8191 ?_
             refine tk_ 13 87 18 16383 ?_ (hy := by rintro w' ⟨s0, s1, s2⟩; go_simp; with_reducible rfl)
             refine on_ 14 88 18 32767 (fun K hK => ?_)
             refine Kd.R_lit_step (Kd.int .i64) _ 3 ?hg (N := 88) ?hd (xs := [e.f0]) (inner := [.int .i64 e.f0]) (ok := fun _ => True) (okp := fun _ => True) ?hr ?hp (fun _ hk => hk) trivial (Below.refl _ _) (Nat.le_refl _) (by simp) ?_; (case hd => rfl); (case hg => rfl); (case hr => go_simp <;> rfl); (case hp => exact (Reps.one (show Kd.M (Kd.int .i64) _ _ _ e.f0 [.int .i64 e.f0] from rfl) (Reps.none _ _)))
             intro s2 w10 ho0 hb0 hg_ hnew_
             clear hg_ hnew_
             obtain ⟨AL, cL, rfl⟩ := Kd.R_slice ho0
             have HLIT := ak_ (Kd.R_reads' ho0).2.2
             replace BK2 := ak_ (blk_below BK2.out hb0); replace BKE := ak_ (blk_below BKE.out hb0); replace BK11 := ak_ (blk_below BK11.out hb0); replace HD := ak_ (Kd.R_below HD.out hb0); replace HB := ak_ (bs_ HB.out hb0); replace HCE := ak_ (pw_cell_below hb0 HCE.out); replace HH := ak_ (Kd.H_below HH.out hb0); replace HRI := ak_ (Kd.R_below HRI.out hb0); replace BX := ak_ (blk_below BX.out hb0); clear hb0 ho0
             refine hK.out _ _ ⟨(blk_cell BK11.out 0).trans rfl, (blk_cell BK11.out 1).trans rfl, HCE.out⟩ (fun hHeld => ?_)
             clear hK K
             refine nm_ ?_
             refine on_ 15 89 18 65535 (fun K hK => ?_)
             refine Kd.R_append_rows_step (Kd.int .i64) (w0 := w) w.heap.size (by rfl) (.tmp 85) (.tmp 88) 22 3 (.int .i64 0) 8 rfl Try.underlying22 info3 rfl (by decide) (by omega) vi (w2.getD q []) [e.f0] AL 1 cL (fun _ => True) (fun _ => False) rfl rfl ?aO ?aR (fun _ _ h => h) (fun _ h => h.elim) ?aF ?aB ?aS ?aL ?_
             (case aO => exact Kd.R_mono HRI.out (fun _ _ => trivial))
             (case aR => exact HLIT.out)
             (case aB => exact HB.out)
             (case aF => exact (fun _ _ => trivial))
             (case aS => exact bz_ HB.out)
             (case aL => have := HC2.out.2.1; rw [← HW2.out] at this; omega)
             intro v3 w11 ho hb hg hat
             obtain ⟨A3, c3, rfl⟩ := Kd.R_slice ho
             generalize (w2.getD q [] ++ [e.f0]).length = n3 at ho hg hat ⊢
             have HD2 := ak_ HD.out
             have HN3 := ak_ ho
             have HGR := ak_ (And.intro hg hat)
             have hat_ := Kd.H_at (Kd.H_grown (Kd.H_widen HH.out) hg (fun k hk => .inl (HRI.out.1 k hk))) (by omega) (by have := HQ.out; omega)
             have hce_ : w11.cell? ⟨gw, q, none⟩ = some vi := (by have h_ := hat_.1 0 vi rfl; rw [Int.toNat_natCast, show q * (Kd.slice 3 (Kd.int .i64)).sz + 0 = q from (by show q * 1 + 0 = q; omega)] at h_; exact h_)
             have hfr_ : w11.frozen? ⟨gw, q, none⟩ = false := (by have h_ := hat_.2 0; rw [Int.toNat_natCast, show q * (Kd.slice 3 (Kd.int .i64)).sz + 0 = q from (by show q * 1 + 0 = q; omega)] at h_; exact h_)
             replace BK2 := ak_ (blk_grown BK2.out hg (Kd.R_ne HRI.out BK2.out (by decide))); replace BKE := ak_ (blk_grown BKE.out hg (Kd.R_ne HRI.out BKE.out (by decide))); replace BK11 := ak_ (blk_grown BK11.out hg (Kd.R_ne HRI.out BK11.out (by decide))); replace HD := ak_ (Kd.R_grown HD.out hg (fun k hk e_ => (HOK.out k (HRI.out.1 k e_.symm)).1 hk)); replace HB := ak_ (hb); replace HCE := ak_ (hce_); replace BX := ak_ (blk_grown BX.out hg (Kd.R_ne HRI.out BX.out (by decide))); clear hg hat ho hat_ hce_
             have HFR := ak_ hfr_
             clear hfr_
             refine hK.out _ _ ⟨(blk_cell BK11.out 0).trans rfl, (blk_cell BK11.out 1).trans rfl, HCE.out⟩ (fun hHeld => ?_)
             clear hK K
             refine nm_ ?_
             refine pu_ 16 90 18 131071 ?_
             refine last_ (i := 17) (N := none) (mb_ 18 262143) rfl rfl (one_of HT_.out (by kernel_rfl)) (by decide) (fun K hK => ?_)
             have hs_ := HCE.out
             have hf_ := HFR.out
             refine skip_ (w1 := ?_) (by rfl) rfl ?_ ?_
             rotate_left
             ·go_simp
              rfl
             refine hK.out _ _ ?_
             clear hK K
             refine done_ (done_of HT_.out (by kernel_rfl)) ?_
             try go_wp2
             have hB_ := fr_back HH.out (by omega) (by have := HQ.out; omega) (by have := Kd.R_lt HD2.out gd rfl; omega) HRI.out HGR.out.1 HGR.out.2 HN3.out
             rw [Int.toNat_natCast] at hB_
             have HBK := ak_ hB_
             clear hB_
             go_roundg ((E s).length - (j + 1))
             case measure => have := HJ.out; have := HJJ.out; omega
             case rel => exact ⟨j + 1, w2.set q (w2.getD q [] ++ [e.f0]), gw, cw, (by rw [List.length_set]), (by first | rfl | (simp; done)), ⟨⟨by have := HJJ.out; omega, Nat.le_refl _⟩⟩, ⟨by rw [HW2.out]; exact H1.out⟩, ⟨by rw [List.length_set, HW2.out]; exact Nat.lt_of_lt_of_le HDW.out (frPad_len q w1)⟩, ⟨Kd.R_grown HD.out HBK.out.2 (fun k hk => by rw [hk]; exact Kd.S_away HBK.out.1 (fun k hk => hk))⟩, ⟨by rw [List.length_set]; exact HBK.out.1⟩, ⟨.inr ⟨ge, cl, rfl, blk_grown BKE.out HBK.out.2 NEK.out.1, HCL.out⟩⟩, ⟨blk_grown BK2.out HBK.out.2 NEK.out.2⟩, ⟨blk_grown BX.out HBK.out.2 NEX.out⟩, ⟨fr_below HB.out HBK.out.2 (Kd.S_base HBK.out.1 gw rfl)⟩⟩
         ·have j1 : decide ((j : Int) < ((E s).length : Int)) = false := decide_eq_false (by omega)
          have j1n : decide (j < (E s).length) = false := decide_eq_false hj
          have h := H1.out
          rw [List.drop_of_length_le (by omega)] at h
          obtain rfl := Option.some.inj (show some w1 = some wf from h)
          clear h H1 hj
          go_wp2
          go_roundg m2
          case measure => omega
          case rel => exact ⟨i + 1, _, w1, gw, cw, rfl, (by first | rfl | (simp; done)), ⟨by have := HM.out; omega⟩, H2, HL2, HDW, ⟨Kd.pR HD.out⟩, ⟨Kd.pS HW.out⟩, ⟨pk BK2.out⟩, ⟨pk BX.out⟩, ⟨(bb_ HB.out)⟩⟩
      ·have i1 : decide ((i : Int) < (row.length : Int)) = false := decide_eq_false (by omega)
       have i1n : decide (i < row.length) = false := decide_eq_false hi
       rw [if_neg hi] at h
       by_cases hd2 : d < 1000000
       rotate_left
       ·rw [if_neg hd2] at h; exact absurd h (by simp)
       rw [if_pos hd2] at h
       have hw7 : IntKind.i64.wrap ((d : Int) + 1) = ((d + 1 : Nat) : Int) := by rw [IntWalk.i64_in _ ⟨by omega, by omega⟩]; omega
       obtain ⟨Ai, ci, rfl⟩ := Kd.R_slice hRi
       have H2 := ak_ h
       clear h hi hd2 H hRi
       go_wp2
       go_roundg m2
       case measure => have := HM.out; omega
       case rel => exact ⟨d + 1, dist, ww, gw, cw, rfl, (by first | rfl | (simp; done)), H2, HL, ⟨Kd.pR HD.out⟩, ⟨Kd.pS HW.out⟩, ⟨pk BK2.out⟩, ⟨pk BX.out⟩, ⟨(bb_ HB.out)⟩⟩
   ·have q1 : decide ((d : Int) < (ww.length : Int)) = false := decide_eq_false (by omega)
    have q1n : decide (d < ww.length) = false := decide_eq_false hd
    have h := H.out
    simp only [frRun] at h
    rw [if_neg hd] at h
    obtain rfl := Option.some.inj h
    clear h H hd
    go_wp2
    first | go_ret | go_ret2
    exact ⟨_, rfl, Kd.R_mono (Kd.R_below HD.out be_) (fun _ _ => trivial), pk BX.out, (bb_ HB.out)⟩
theorem GOut.up {fo : Nat} {cb : Array Value} {N : Int} {E : Int → List S90} {w w0 : World} (h : GOut fo cb N E w) (hb : Below w.heap.size w w0) : GOut fo cb N E w0 := fun W s hW => h W s (below_then hb hb.size hW)
theorem frRun_congr {E E' : Int → List S90} {N : Int} (h : ∀ s, 0 ≤ s → s < N → E s = E' s) : ∀ k d i dist w, frRun E N k d i dist w = frRun E' N k d i dist w
 | 0, _, _, _, _ => rfl
 | k + 1, d, i, dist, w => by
  rw [frRun.eq_2, frRun.eq_2]
  by_cases hs : 0 ≤ rdOf 0 (w.getD d []) (i : Int) ∧ rdOf 0 (w.getD d []) (i : Int) < N
  ·rw [h _ hs.1 hs.2]
   simp only [frRun_congr h k]
  ·have e1 : ¬ (0 ≤ rdOf 0 (w.getD d []) (i : Int) ∧ rdOf 0 (w.getD d []) (i : Int) < N ∧ i < 1000000 ∧ d < 1000000 ∧ (E (rdOf 0 (w.getD d []) (i : Int))).length < 1000000) := fun hc => hs ⟨hc.1, hc.2.1⟩
   have e2 : ¬ (0 ≤ rdOf 0 (w.getD d []) (i : Int) ∧ rdOf 0 (w.getD d []) (i : Int) < N ∧ i < 1000000 ∧ d < 1000000 ∧ (E' (rdOf 0 (w.getD d []) (i : Int))).length < 1000000) := fun hc => hs ⟨hc.1, hc.2.1⟩
   simp only [if_neg e1, if_neg e2, frRun_congr h k]
def grE (g : Int → Option (List S90)) : Int → List S90 := fun s => (g s).getD []
def grAll (g : Int → Option (List S90)) (N : Int) : Bool := (List.range N.toNat).all fun i => (g (i : Int)).isSome
theorem grAll_at {g : Int → Option (List S90)} {N : Int} (h : grAll g N = true) (s : Int) (s0 : 0 ≤ s) (s1 : s < N) : g s = some (grE g s) := by
 have h2 := List.all_eq_true.1 h s.toNat (List.mem_range.2 (by omega))
 rw [Int.toNat_of_nonneg s0] at h2
 unfold grE
 cases hg : g s with
 | none => rw [hg] at h2; exact absurd h2 (by simp)
 | some r => rfl
theorem grAll_le {g g' : Int → Option (List S90)} {N : Int} (hg : ∀ s, LeO (g s) (g' s)) (h : grAll g N = true) : grAll g' N = true ∧ ∀ s, 0 ≤ s → s < N → grE g s = grE g' s := by
 have h2 : ∀ s, 0 ≤ s → s < N → g' s = some (grE g s) := fun s s0 s1 => hg s _ (grAll_at h s s0 s1)
 refine ⟨List.all_eq_true.2 (fun i hi => ?_), fun s s0 s1 => ?_⟩
 ·rw [h2 i (by omega) (by rw [List.mem_range] at hi; omega)]; rfl
 ·show grE g s = (g' s).getD []
  rw [h2 s s0 s1]; rfl
def frG (g : Int → Option (List S90)) (k : Nat) (N : Int) (starts : List Int) : Option (List Int) := if grAll g N = true then impl_graph_int_from.f (grE g) k N starts else none
theorem GOut.of {fo : Nat} {cb : Array Value} {N : Int} {g : Int → Option (List S90)} {w0 : World} (ha : grAll g N = true)
  (h : ∀ (W : World) (s : Int) (es : List S90), Below w0.heap.size w0 W → g s = some es → Calls Try.prog fo (#[.int .i64 s] ++ cb) W fun e w' => ∃ v : Value, e = .returned v ∧ Kd.S k90 90 w' W.heap.size (fun _ => True) v es ∧ Below W.heap.size W w') : GOut fo cb N (grE g) w0 :=
 fun W s hW s0 s1 => h W s _ hW (grAll_at ha s s0 s1)
def rcRun : List Int → Int → Int
 | [], a => a
 | d :: ds, a => rcRun ds (wrap64 (a + if 0 ≤ d then 1 else 0))
def rcFin (dist : List Int) : Option Int := if 0 < dist.length ∧ dist.length < 1000000 then some (rcRun dist 0) else none
def impl_graph_int_reached.f (E : Int → List S90) (k : Nat) (N s : Int) : Option Int := (impl_graph_int_from.f E k N [s]).bind rcFin
theorem impl_graph_int_reached.calls (fo : Nat) (cb : Array Value) (N : Int) (E : Int → List S90) (w w0 : World) (ee : ∀ args w, (callFunc fo args).run Try.prog w = .ok (.enter fo args) w) (hE : GOut fo cb N E w) (hb0 : Below w.heap.size w w0) (k : Nat) (s r : Int) (h : impl_graph_int_reached.f E k N s = some r) :
  Calls Try.prog 56 #[.agg #[.int .i64 N, .func (.func fo) #[] cb], .int .i64 s] w0 fun e w' => e = .returned (.int .i64 r) ∧ Below w.heap.size w w' := by
 have hu := Try.underlying67
 unfold impl_graph_int_reached.f at h
 obtain ⟨dist, h1, h⟩ := Option.bind_eq_some_iff.mp h
 unfold rcFin at h
 by_cases hd : 0 < dist.length ∧ dist.length < 1000000
 rotate_left
 ·rw [if_neg hd] at h; exact absurd h (by simp)
 rw [if_pos hd] at h
 have H := ak_ (Option.some.inj h)
 have A1 := ak_ fun (W W0 : World) (hE : GOut fo cb N E W) (bs cs : Nat) (hb0 : Below W.heap.size W W0) (gx : Nat) (cx : Array Value) (hX : W0.heap[gx]? = some (.cells cx 67 (0, 0))) (hs : Kd.R (Kd.int .i64) 3 W0 W.heap.size (fun _ => True) (.slice (some ⟨bs, 0, none⟩) 1 cs) [s]) => impl_graph_int_from.calls fo cb N E W W0 ee hE k [s] dist bs cs hb0 gx cx hX hs h1
 have HE := ak_ hE
 have HD0 := ak_ hd
 have HB := ak_ hb0
 clear h h1 hd hE hb0
 go_enter Try.func56, Try.ntmps56
 go_wp2_with (first | ((with_reducible refine gate_dst (N := 2) rfl ?_); refine box_event ?hg (N := 2) ?hd (cs := #[.int .i64 N, .func (.func fo) #[] cb]) (t := 67) ?hr ?_; (case hd => rfl); (case hg => rfl); (case hr => go_simp <;> rfl); intro gb2 hg w2 hbox hb; have nb_ := ak_ (bs_ (bb_ HB.out) hb); have nc_ := ak_ hbox; have nd_ := ak_ ((by rw [hg]; exact (bz_ (bb_ HB.out)) : w.heap.size ≤ gb2)); clear HB hb hbox hg; have HB := nb_; have BK2 := nc_; have GE2 := nd_; clear nb_ nc_ nd_; have hz2_0 := (blk_cell BK2.out 0); have hf2_0 := (blk_frozen BK2.out 0); simp at hz2_0; have hz2_1 := (blk_cell BK2.out 1); have hf2_1 := (blk_frozen BK2.out 1); simp at hz2_1; skip) | (go_at_call 80; refine (A1.out w2 _ (HE.out.up HB.out) w2.heap.size 1 (ba_ (Below.refl w2.heap.size w2) (.cells #[.int .i64 s] 3)) gb2 _ (ka_ BK2.out (.cells #[.int .i64 s] 3)) (Kd.S_R (row_lits (Kd.int .i64) (xs := [s]) (inner := [.int .i64 s]) (fun _ _ => False) rfl (fun j x hx => by cases j with | zero => (obtain rfl : s = x := by simpa using hx); rfl | succ j => simp at hx) (fun _ _ _ h => h.elim) (fun _ _ h => h.elim) trivial (Nat.le_refl _) (by simp)))).mono ?_; rintro e w11 ⟨v11, rfl, hdi, hbx, hb⟩; obtain ⟨gd, cd, rfl, -, -, -⟩ := Kd.R_form hdi HD0.out.1; have HD := ak_ (Kd.R_lower hdi (bz_ HB.out)); have nb_ := ak_ (bs_ HB.out hb); clear HB hb hbx hdi BK2 A1; have HB := nb_; clear nb_))
 go_loopg [5, 13] dist.length (fun gg v5 v13 wr => ∃ (j : Nat) (a : Int), v5 = .int .i64 a ∧ v13 = .int .i64 (j : Int) ∧ Aside0 (j ≤ dist.length ∧ dist.length - j ≤ gg) ∧ Aside0 (rcRun (dist.drop j) a = r) ∧ Aside0 (Kd.R (Kd.int .i64) 3 wr w.heap.size (fun _ => True) (.slice (some ⟨gd, 0, none⟩) dist.length cd) dist) ∧ Aside0 (Below w.heap.size w wr))
 case atStart => exact ⟨0, 0, rfl, rfl, ⟨⟨Nat.zero_le _, Nat.le_refl _⟩⟩, H, ⟨Kd.pR HD.out⟩, ⟨(bb_ HB.out)⟩⟩
 case round =>
  clear H HD HB
  obtain ⟨j, a, rfl, rfl, HJ, H, HD, HB⟩ := hrel
  by_cases hj : j < dist.length
  ·have j1 : decide ((j : Int) < (dist.length : Int)) = true := decide_eq_true (by omega)
   have j1n : decide (j < dist.length) = true := decide_eq_true hj
   have j0p : ((0 : Int) ≤ (j : Int)) = True := eq_true (by omega)
   have j1p : ((j : Int) < (dist.length : Int)) = True := eq_true (by omega)
   obtain ⟨d, hd⟩ : ∃ d, d = rdOf 0 dist (j : Int) := ⟨_, rfl⟩
   have hx := (Kd.R_celln 0 HD.out (j : Int) (by omega) (by omega)).1
   rw [Int.toNat_natCast, ← hd] at hx
   have h := H.out
   rw [List.drop_eq_getElem_cons hj, show dist[j] = d from by rw [hd]; unfold rdOf; rw [Int.toNat_natCast, List.getD_eq_getElem?_getD, List.getElem?_eq_getElem hj]; rfl] at h
   simp only [rcRun] at h
   obtain ⟨b, hb⟩ : ∃ b, b = decide (0 ≤ d) := ⟨_, rfl⟩
   have v1 : decide (d ≥ 0) = b := hb.symm
   have v2 : decide (0 ≤ d) = b := hb.symm
   obtain ⟨q, hq⟩ : ∃ q : Int, q = if 0 ≤ d then 1 else 0 := ⟨_, rfl⟩
   rw [← hq] at h
   have A2 := ak_ fun (W : World) => impl_bit.calls b q W (by unfold impl_bit.f; rw [hb, hq]; by_cases h0 : 0 ≤ d <;> simp [h0])
   have hw13 : IntKind.i64.wrap ((j : Int) + 1) = ((j + 1 : Nat) : Int) := by have := HD0.out; rw [IntWalk.i64_in _ ⟨by omega, by omega⟩]; omega
   obtain ⟨a2, ha2⟩ : ∃ a2, a2 = wrap64 (a + q) := ⟨_, rfl⟩
   rw [← ha2] at h
   have HA2 := ak_ ha2
   have HH := ak_ h
   have HJJ := ak_ hj
   clear h hd hb hq hj ha2
   go_wp2_with (go_at_call 81; refine (A2.out _).mono ?_; rintro e w20 ⟨rfl, hd⟩; have hb := hd.below; clear hd hx A2; replace HB := ak_ (bs_ (bb_ HB.out) hb); replace HD := ak_ (Kd.R_below (Kd.pR HD.out) hb); clear hb)
   go_roundg (dist.length - (j + 1))
   case measure => have := HJ.out; have := HJJ.out; omega
   case rel => exact ⟨j + 1, a2, (by rw [HA2.out]), (by first | rfl | (simp; done)), ⟨⟨by have := HJJ.out; omega, Nat.le_refl _⟩⟩, HH, ⟨Kd.pR HD.out⟩, ⟨(bb_ HB.out)⟩⟩
  ·have j1 : decide ((j : Int) < (dist.length : Int)) = false := decide_eq_false (by omega)
   have j1n : decide (j < dist.length) = false := decide_eq_false hj
   have h := H.out
   rw [List.drop_of_length_le (by omega)] at h
   obtain rfl : a = r := h
   clear h H hj
   go_wp2
   first | go_ret2 | go_ret
   exact ⟨rfl, (bb_ HB.out)⟩
def impl_CountCampsReached.f (k : Nat) (ts : List Int) (se tq : Int) : Option (Int × Bool) := (impl_IsNight.f ts se tq).bind fun b => if b = true then ((frG (nightG k ts se tq false) k (ngN tq ts.length) [0]).bind rcFin).bind fun r => some (r, true) else some (0, false)
theorem impl_CountCampsReached.calls (k : Nat) (At : Option Addr) (ct : Nat) (ts : List Int) (se tq : Int) (r1 : Int) (r2 : Bool) (w : World) (ht : Kd.C (Kd.int .i64) w At ts.length ts) (hct : ts.length ≤ ct) (h : impl_CountCampsReached.f k ts se tq = some (r1, r2)) :
  Calls Try.prog 24 #[.agg #[.slice At ts.length ct, .int .i64 se, .int .i64 tq]] w fun e w' => e = .returned (.tuple #[.int .i64 r1, .bool r2]) ∧ Below w.heap.size w w' := by
 have hu := Try.underlying33
 have hu2 := Try.underlying67
 unfold impl_CountCampsReached.f at h
 obtain ⟨b1, h1, h⟩ := Option.bind_eq_some_iff.mp h
 have A1 := ak_ fun (W : World) (hb : Below w.heap.size w W) => impl_IsNight.calls At ct ts se tq b1 W (Kd.C_below ht hb) hct h1
 have HB := ak_ (Below.refl w.heap.size w)
 cases b1
 ·rw [if_neg (by simp)] at h
  obtain ⟨rfl, rfl⟩ : (0 : Int) = r1 ∧ false = r2 := by simpa using h
  clear h h1 ht hct
  go_enter Try.func24, Try.ntmps24
  go_upto_region 1 with (first | ((with_reducible refine gate_dst (N := 1) rfl ?_); refine bx_ 1 #[.slice At ts.length ct, .int .i64 se, .int .i64 tq] 33 ?_; intro gb2 hg w2 hbox hb; have nb_ := ak_ (bs_ (bb_ HB.out) hb); have nc_ := ak_ hbox; have nd_ := ak_ ((by rw [hg]; exact (bz_ (bb_ HB.out)) : w.heap.size ≤ gb2)); clear HB hb hbox hg; have HB := nb_; have BK2 := nc_; have GE2 := nd_; clear nb_ nc_ nd_; have hz2_0 := (blk_cell BK2.out 0); have hf2_0 := (blk_frozen BK2.out 0); simp at hz2_0; have hz2_1 := (blk_cell BK2.out 1); have hf2_1 := (blk_frozen BK2.out 1); simp at hz2_1; have hz2_2 := (blk_cell BK2.out 2); have hf2_2 := (blk_frozen BK2.out 2); simp at hz2_2; skip))
  have hq2_0 := blk_cell BK2.out 0
  simp at hq2_0
  have hq2_1 := blk_cell BK2.out 1
  simp at hq2_1
  have hq2_2 := blk_cell BK2.out 2
  simp at hq2_2
  go_wp2_with (go_at_call 54; refine (A1.out _ (bb_ HB.out)).mono ?_; rintro e w7 ⟨rfl, hb⟩; clear hq2_0 hq2_1 hq2_2 A1; replace BK2 := ak_ (blk_below (pk BK2.out) hb); replace HB := ak_ (bs_ (bb_ HB.out) hb); clear hb)
  first | go_ret2 | go_ret
  exact ⟨rfl, (bb_ HB.out)⟩
 ·rw [if_pos rfl] at h
  obtain ⟨r, h2, h⟩ := Option.bind_eq_some_iff.mp h
  obtain ⟨rfl, rfl⟩ : r = r1 ∧ true = r2 := by simpa using h
  obtain ⟨dist, h2, h3⟩ := Option.bind_eq_some_iff.mp h2
  unfold frG at h2
  by_cases ha : grAll (nightG k ts se tq false) (ngN tq ts.length) = true
  rotate_left
  ·rw [if_neg ha] at h2; exact absurd h2 (by simp)
  rw [if_pos ha] at h2
  have A2 := ak_ fun (W : World) (hb : Below w.heap.size w W) => impl_Night_graph.calls At ct ts se tq false W (Kd.C_below ht hb)
  have HE := ak_ fun (W : World) (hb : Below w.heap.size w W) (Bc Bl : Nat) (hB : W.heap[Bc]? = some (.cells #[.slice At ts.length ct, .int .i64 se, .int .i64 tq] 33 (0, 0)) ∧ W.heap[Bl]? = some (.cells #[.bool false] 4 (0, 0))) => (GOut.of ha (fun W' s es hW' hs => impl_Night_graph.calls_1 k Bc Bl At ct ts se tq false s es W' (blk_below hB.1 hW') (blk_below hB.2 hW') (Kd.C_below ht (bs_ hb hW')) hct hs) : GOut 76 #[.pointer (some ⟨Bc, 0, none⟩), .pointer (some ⟨Bl, 0, none⟩)] (ngN tq ts.length) (grE (nightG k ts se tq false)) W)
  have A3 := ak_ fun (W : World) (cb : Array Value) (hE : GOut 76 cb (ngN tq ts.length) (grE (nightG k ts se tq false)) W) => impl_graph_int_reached.calls 76 cb (ngN tq ts.length) (grE (nightG k ts se tq false)) W W (enters_of Try.func76 (by kernel_rfl) rfl) hE (Below.refl _ _) k 0 r (show impl_graph_int_reached.f (grE (nightG k ts se tq false)) k (ngN tq ts.length) 0 = some r from by unfold impl_graph_int_reached.f; rw [h2]; exact h3)
  clear h h1 h2 h3 ht hct ha
  go_enter Try.func24, Try.ntmps24
  go_upto_region 1 with (first | ((with_reducible refine gate_dst (N := 1) rfl ?_); refine bx_ 1 #[.slice At ts.length ct, .int .i64 se, .int .i64 tq] 33 ?_; intro gb2 hg w2 hbox hb; have nb_ := ak_ (bs_ (bb_ HB.out) hb); have nc_ := ak_ hbox; have nd_ := ak_ ((by rw [hg]; exact (bz_ (bb_ HB.out)) : w.heap.size ≤ gb2)); clear HB hb hbox hg; have HB := nb_; have BK2 := nc_; have GE2 := nd_; clear nb_ nc_ nd_; have hz2_0 := (blk_cell BK2.out 0); have hf2_0 := (blk_frozen BK2.out 0); simp at hz2_0; have hz2_1 := (blk_cell BK2.out 1); have hf2_1 := (blk_frozen BK2.out 1); simp at hz2_1; have hz2_2 := (blk_cell BK2.out 2); have hf2_2 := (blk_frozen BK2.out 2); simp at hz2_2; skip))
  have hq2_0 := blk_cell BK2.out 0
  simp at hq2_0
  have hq2_1 := blk_cell BK2.out 1
  simp at hq2_1
  have hq2_2 := blk_cell BK2.out 2
  simp at hq2_2
  go_upto_region 3 with (go_at_call 54; refine (A1.out _ (bb_ HB.out)).mono ?_; rintro e w7 ⟨rfl, hb⟩; clear hq2_0 hq2_1 hq2_2 A1; replace BK2 := ak_ (blk_below (pk BK2.out) hb); replace HB := ak_ (bs_ (bb_ HB.out) hb); clear hb)
  have hq2_0 := blk_cell BK2.out 0
  simp at hq2_0
  have hq2_1 := blk_cell BK2.out 1
  simp at hq2_1
  have hq2_2 := blk_cell BK2.out 2
  simp at hq2_2
  go_wp2_with (first | (go_at_call 55; refine (A2.out _ (bb_ HB.out)).mono ?_; rintro e w8 ⟨Bc, Bl, rfl, hB, hb⟩; have HK := ak_ hB; clear hB A2 hq2_0 hq2_1 hq2_2; replace BK2 := ak_ (blk_below (pk BK2.out) hb); replace HB := ak_ (bs_ (bb_ HB.out) hb); clear hb) | (go_at_call 56; refine (A3.out w8 _ (HE.out w8 HB.out Bc Bl HK.out)).mono ?_; rintro e w9 ⟨rfl, hb⟩; clear A3; replace HB := ak_ (bs_ HB.out hb); clear hb))
  first | go_ret2 | go_ret
  exact ⟨rfl, (bb_ HB.out)⟩
def laws_FnExactCountCampsReached.j0 : Nat → Bool → List Int → Int → Int → List Int → Int → Int → Option (Bool)
 | 0, _, _, _, _, _, _, _ => none
 | k + 1, x34, x480000, x480001, x480002, x494000, x494001, x494002 => if x34 = true then (none) else ((laws_toNight.f k x480000 x480001 x480002).bind fun bt496 => ((laws_eqNight.f k x494000 x494001 x494002 bt496.1 bt496.2.1 bt496.2.2).bind fun t501 => (if t501 = true then (some true) else (none))))
def laws_FnExactCountCampsReached.f (k : Nat) (l0_0 : List Int) (a0_1 : Int) (a0_2 : Int) : Option (Bool) := (laws_szNight.f l0_0 a0_1 a0_2 1048576).bind fun t480 => (if t480 < 0 then (some true) else ((laws_toNight.f k l0_0 a0_1 a0_2).bind fun bt481 => ((spec_CountCampsReached.f k bt481.1 bt481.2.1 bt481.2.2).bind fun bt486 => ((laws_toNight.f k l0_0 a0_1 a0_2).bind fun bt488 => ((impl_CountCampsReached.f k bt488.1 bt488.2.1 bt488.2.2).bind fun bt494 => (if bt494.1 = bt486.1 then (laws_FnExactCountCampsReached.j0 k (bt494.2 != bt486.2) l0_0 a0_1 a0_2 bt488.1 bt488.2.1 bt488.2.2) else (laws_FnExactCountCampsReached.j0 k true l0_0 a0_1 a0_2 bt488.1 bt488.2.1 bt488.2.2)))))))
theorem laws_FnExactCountCampsReached.calls (k : Nat) (A0_0 : Option Addr) (c0_0 : Nat) (l0_0 : List Int) (a0_1 : Int) (a0_2 : Int) (r : Bool) (w : World) (hr0_0 : Kd.C (Kd.int .i64) w A0_0 l0_0.length l0_0) (hc0_0 : l0_0.length ≤ c0_0) (h : laws_FnExactCountCampsReached.f k l0_0 a0_1 a0_2 = some r) :
  Calls Try.prog 4 #[.agg #[.slice A0_0 l0_0.length c0_0, .int .i64 a0_1, .int .i64 a0_2]] w fun e w' => e = .returned (.bool r) ∧ Below w.heap.size w w' := by
 have hu24 := Try.underlying24
 have hu33 := Try.underlying33
 have HR0_0 := ak_ hr0_0
 have HC0_0 := ak_ hc0_0
 clear hr0_0 hc0_0
 have HB := ak_ (Below.refl w.heap.size w)
 have H : ((laws_szNight.f l0_0 a0_1 a0_2 1048576).bind fun t480 => (if t480 < 0 then (some true) else ((laws_toNight.f k l0_0 a0_1 a0_2).bind fun bt481 => ((spec_CountCampsReached.f k bt481.1 bt481.2.1 bt481.2.2).bind fun bt486 => ((laws_toNight.f k l0_0 a0_1 a0_2).bind fun bt488 => ((impl_CountCampsReached.f k bt488.1 bt488.2.1 bt488.2.2).bind fun bt494 => (if bt494.1 = bt486.1 then (laws_FnExactCountCampsReached.j0 k (bt494.2 != bt486.2) l0_0 a0_1 a0_2 bt488.1 bt488.2.1 bt488.2.2) else (laws_FnExactCountCampsReached.j0 k true l0_0 a0_1 a0_2 bt488.1 bt488.2.1 bt488.2.2)))))))) = some r := h
 clear h
 replace H := Option.bind_eq_some_iff.mp H
 obtain ⟨t480, A20, H⟩ := H
 replace H : (if t480 < 0 then (some true) else ((laws_toNight.f k l0_0 a0_1 a0_2).bind fun bt481 => ((spec_CountCampsReached.f k bt481.1 bt481.2.1 bt481.2.2).bind fun bt486 => ((laws_toNight.f k l0_0 a0_1 a0_2).bind fun bt488 => ((impl_CountCampsReached.f k bt488.1 bt488.2.1 bt488.2.2).bind fun bt494 => (if bt494.1 = bt486.1 then (laws_FnExactCountCampsReached.j0 k (bt494.2 != bt486.2) l0_0 a0_1 a0_2 bt488.1 bt488.2.1 bt488.2.2) else (laws_FnExactCountCampsReached.j0 k true l0_0 a0_1 a0_2 bt488.1 bt488.2.1 bt488.2.2))))))) = some r := H
 have A2 := ak_ A20
 clear A20
 by_cases c3 : t480 < 0
 ·
  rw [if_pos c3] at H
  have c3b0 := decide_eq_true c3
  clear c3
  obtain rfl := Option.some.inj H
  go_enter Try.func4, Try.ntmps4
  go_wp2_with (first | ((with_reducible refine gate_dst (N := 1) rfl ?_); refine bx_ 1 #[.slice A0_0 l0_0.length c0_0, .int .i64 a0_1, .int .i64 a0_2] 24 ?_; intro gb479 hg w4 hbox hb; have BK479 := ak_ (hbox); have GW479 := ak_ ((by rw [hg]; exact (bz_ (bb_ HB.out)) : w.heap.size ≤ gb479)); replace HB := ak_ (bs_ (bb_ HB.out) hb); have GE479 := GW479; clear hb hbox hg; obtain ⟨hcz5_0, hcz5_1, hcz5_2, hfz5_0, hfz5_1, hfz5_2⟩ := c3_ BK479.out) | ((with_reducible refine gate_callee (f := 10) rfl ?_); refine goesL_ (some 11) rfl rfl Try.func10 (by kernel_rfl) rfl #[.agg #[.slice A0_0 l0_0.length c0_0, .int .i64 a0_1, .int .i64 a0_2], .int .i64 1048576] rfl rs_ ?_; (with_reducible refine (laws_szNight.calls _ _ l0_0 a0_1 a0_2 1048576 t480 _ ?side1 ?side2 A2.out).mono ?_); (case side1 => exact cs_ (Kd.C_below HR0_0.out HB.out)); (case side2 => exact HC0_0.out); rintro e w6 ⟨rfl, hb⟩; refine ⟨_, rfl, ?_⟩; replace BK479 := ak_ (blk_below (pk BK479.out) hb); replace HB := ak_ (bs_ bl_ hb); (try clear hb); (try clear hb2); (try clear hk); (try clear hi)))
  go_ret
  exact ⟨rx_, bl_⟩
 ·
  rw [if_neg c3] at H
  have c3b0 := decide_eq_false c3
  clear c3
  replace H := Option.bind_eq_some_iff.mp H
  obtain ⟨⟨t481, t484, t485⟩, A70, H⟩ := H
  replace H : ((spec_CountCampsReached.f k t481 t484 t485).bind fun bt486 => ((laws_toNight.f k l0_0 a0_1 a0_2).bind fun bt488 => ((impl_CountCampsReached.f k bt488.1 bt488.2.1 bt488.2.2).bind fun bt494 => (if bt494.1 = bt486.1 then (laws_FnExactCountCampsReached.j0 k (bt494.2 != bt486.2) l0_0 a0_1 a0_2 bt488.1 bt488.2.1 bt488.2.2) else (laws_FnExactCountCampsReached.j0 k true l0_0 a0_1 a0_2 bt488.1 bt488.2.1 bt488.2.2))))) = some r := H
  have A7 := ak_ A70
  clear A70
  replace H := Option.bind_eq_some_iff.mp H
  obtain ⟨⟨t486, t487⟩, A80, H⟩ := H
  replace H : ((laws_toNight.f k l0_0 a0_1 a0_2).bind fun bt488 => ((impl_CountCampsReached.f k bt488.1 bt488.2.1 bt488.2.2).bind fun bt494 => (if bt494.1 = t486 then (laws_FnExactCountCampsReached.j0 k (bt494.2 != t487) l0_0 a0_1 a0_2 bt488.1 bt488.2.1 bt488.2.2) else (laws_FnExactCountCampsReached.j0 k true l0_0 a0_1 a0_2 bt488.1 bt488.2.1 bt488.2.2)))) = some r := H
  have A8 := ak_ A80
  clear A80
  replace H := Option.bind_eq_some_iff.mp H
  obtain ⟨⟨t488, t491, t492⟩, A90, H⟩ := H
  replace H : ((impl_CountCampsReached.f k t488 t491 t492).bind fun bt494 => (if bt494.1 = t486 then (laws_FnExactCountCampsReached.j0 k (bt494.2 != t487) l0_0 a0_1 a0_2 t488 t491 t492) else (laws_FnExactCountCampsReached.j0 k true l0_0 a0_1 a0_2 t488 t491 t492))) = some r := H
  have A9 := ak_ A90
  clear A90
  replace H := Option.bind_eq_some_iff.mp H
  obtain ⟨⟨t494, t495⟩, A100, H⟩ := H
  replace H : (if t494 = t486 then (laws_FnExactCountCampsReached.j0 k (t495 != t487) l0_0 a0_1 a0_2 t488 t491 t492) else (laws_FnExactCountCampsReached.j0 k true l0_0 a0_1 a0_2 t488 t491 t492)) = some r := H
  have A10 := ak_ A100
  clear A100
  have HC11 := ak_ H
  clear H
  go_enter Try.func4, Try.ntmps4
  go_upto_region 8 with (first | ((with_reducible refine gate_dst (N := 1) rfl ?_); refine bx_ 1 #[.slice A0_0 l0_0.length c0_0, .int .i64 a0_1, .int .i64 a0_2] 24 ?_; intro gb479 hg w12 hbox hb; have BK479 := ak_ (hbox); have GW479 := ak_ ((by rw [hg]; exact (bz_ (bb_ HB.out)) : w.heap.size ≤ gb479)); replace HB := ak_ (bs_ (bb_ HB.out) hb); have GE479 := GW479; clear hb hbox hg; obtain ⟨hcz13_0, hcz13_1, hcz13_2, hfz13_0, hfz13_1, hfz13_2⟩ := c3_ BK479.out) | ((with_reducible refine gate_callee (f := 10) rfl ?_); refine goesL_ (some 11) rfl rfl Try.func10 (by kernel_rfl) rfl #[.agg #[.slice A0_0 l0_0.length c0_0, .int .i64 a0_1, .int .i64 a0_2], .int .i64 1048576] rfl rs_ ?_; (with_reducible refine (laws_szNight.calls _ _ l0_0 a0_1 a0_2 1048576 t480 _ ?side1 ?side2 A2.out).mono ?_); (case side1 => exact cs_ (Kd.C_below HR0_0.out HB.out)); (case side2 => exact HC0_0.out); rintro e w14 ⟨rfl, hb⟩; refine ⟨_, rfl, ?_⟩; replace BK479 := ak_ (blk_below (pk BK479.out) hb); replace HB := ak_ (bs_ bl_ hb); (try clear hb); (try clear hb2); (try clear hk); (try clear hi); obtain ⟨hcz15_0, hcz15_1, hcz15_2, hfz15_0, hfz15_1, hfz15_2⟩ := c3_ BK479.out) | ((with_reducible refine gate_callee (f := 13) rfl ?_); refine goesL_ (some 16) rfl rfl Try.func13 (by kernel_rfl) rfl #[.agg #[.slice A0_0 l0_0.length c0_0, .int .i64 a0_1, .int .i64 a0_2]] rfl rs_ ?_; (with_reducible refine (laws_toNight.calls k _ _ l0_0 a0_1 a0_2 t481 t484 t485 _ ?side1 ?side2 A7.out).mono ?_); (case side1 => exact cs_ (Kd.C_below HR0_0.out HB.out)); (case side2 => exact HC0_0.out); rintro e w16 ⟨v482, rfl, ho0, hb⟩; refine ⟨_, rfl, ?_⟩; have HO483 := ak_ (Kd.R_lower ho0 (bz_ bl_)); replace BK479 := ak_ (blk_below (pk BK479.out) hb); replace HB := ak_ (bs_ bl_ hb); (try clear hb); (try clear hb2); (try clear hk); (try clear hi); (try clear ho0); obtain ⟨Ao17, co17, eo17⟩ := Kd.R_slice HO483.out; subst eo17) | ((with_reducible refine gate_callee (f := 23) rfl ?_); refine goesL_ (some 17) rfl rfl Try.func23 (by kernel_rfl) rfl #[.agg #[.slice Ao17 t481.length co17, .int .i64 t484, .int .i64 t485]] rfl rs_ ?_; (with_reducible refine (spec_CountCampsReached.calls k _ _ t481 t484 t485 t486 t487 _ ?side1 ?side2 A8.out).mono ?_); (case side1 => exact cs_ ((Kd.R_reads' HO483.out).2.2)); (case side2 => exact (Kd.R_reads' HO483.out).2.1); rintro e w18 ⟨rfl, hb⟩; refine ⟨_, rfl, ?_⟩; replace HO483 := ak_ (Kd.R_below (Kd.pR HO483.out) hb); replace BK479 := ak_ (blk_below (pk BK479.out) hb); replace HB := ak_ (bs_ bl_ hb); (try clear hb); (try clear hb2); (try clear hk); (try clear hi); obtain ⟨hcz19_0, hcz19_1, hcz19_2, hfz19_0, hfz19_1, hfz19_2⟩ := c3_ BK479.out) | ((with_reducible refine gate_callee (f := 13) rfl ?_); refine goesL_ (some 21) rfl rfl Try.func13 (by kernel_rfl) rfl #[.agg #[.slice A0_0 l0_0.length c0_0, .int .i64 a0_1, .int .i64 a0_2]] rfl rs_ ?_; (with_reducible refine (laws_toNight.calls k _ _ l0_0 a0_1 a0_2 t488 t491 t492 _ ?side1 ?side2 A9.out).mono ?_); (case side1 => exact cs_ (Kd.C_below HR0_0.out HB.out)); (case side2 => exact HC0_0.out); rintro e w20 ⟨v489, rfl, ho0, hb⟩; refine ⟨_, rfl, ?_⟩; have HO490 := ak_ (Kd.R_lower (Kd.R_new' ho0 (Kd.R_lt (Kd.pR HO483.out))) (bz_ bl_)); replace HO483 := ak_ (Kd.R_elder' (Kd.pR HO483.out) (Kd.R_base ho0) hb); replace BK479 := ak_ (blk_below (pk BK479.out) hb); replace HB := ak_ (bs_ bl_ hb); (try clear hb); (try clear hb2); (try clear hk); (try clear hi); (try clear ho0)) | ((with_reducible refine gate_dst (N := 6) rfl ?_); refine bx_ 6 #[.slice none 0 0, .int .i64 0, .int .i64 0] 33 ?_; intro gb493 hg w21 hbox hb; replace HO483 := ak_ (Kd.R_below (Kd.pR HO483.out) hb); replace HO490 := ak_ (Kd.R_below (Kd.pR HO490.out) hb); have BK493 := ak_ (hbox); have GW493 := ak_ ((by rw [hg]; exact (bz_ bl_) : w.heap.size ≤ gb493)); replace HB := ak_ (bs_ bl_ hb); have GE493 := GW493; have NB479_493 := ak_ ((by rw [hg]; exact Nat.ne_of_lt (blk_lt (pk BK479.out)) : gb479 ≠ gb493)); replace BK479 := ak_ (blk_below (pk BK479.out) hb); have NB493_479 := ak_ NB479_493.out.symm; clear hb hbox hg; obtain ⟨Ao22, co22, eo22⟩ := Kd.R_slice HO490.out; subst eo22; have hnb23 := NB493_479.out; have hnc23 := NB479_493.out; obtain ⟨hcz24_0, hcz24_1, hcz24_2, hfz24_0, hfz24_1, hfz24_2⟩ := c3_ BK493.out) | ((with_reducible refine gate_callee (f := 24) rfl ?_); refine goesL_ (some 24) rfl rfl Try.func24 (by kernel_rfl) rfl #[.agg #[.slice Ao22 t488.length co22, .int .i64 t491, .int .i64 t492]] rfl rs_ ?_; (with_reducible refine (impl_CountCampsReached.calls k _ _ t488 t491 t492 t494 t495 _ ?side1 ?side2 A10.out).mono ?_); (case side1 => refine (Kd.R_reads' (e := 3) (base := w.heap.size) (ok := fun k_ => (True ∧ some k_ ≠ (.slice Ao17 t481.length co17 : Value).ownBlock)) (n := t488.length) (c := co22) ?_).2.2; exact (by (with_reducible repeat (first | apply Kd.R_alloc | apply Kd.R_drewN | apply Kd.R_drew)); exact (Kd.R_mono (Kd.R_far (p := ⟨gb493, 2, none⟩) (Kd.R_far (p := ⟨gb493, 1, none⟩) (Kd.R_far (p := ⟨gb493, 0, none⟩) (Kd.R_types HO490.out BK493.out (by decide)) (fun _ hk => hk.2) (.slice Ao22 t488.length co22)) (fun _ hk => hk.2) (.int .i64 t491)) (fun _ hk => hk.2) (.int .i64 t492)) (fun _ h_ => h_.1)))); (case side2 => exact (Kd.R_reads' HO490.out).2.1); rintro e w25 ⟨rfl, hb⟩; refine ⟨_, rfl, ?_⟩; replace HO483 := ak_ (Kd.R_below (by (with_reducible repeat (first | apply Kd.R_alloc | apply Kd.R_drewN | apply Kd.R_drew)); exact (Kd.R_mono (Kd.R_far (p := ⟨gb493, 2, none⟩) (Kd.R_far (p := ⟨gb493, 1, none⟩) (Kd.R_far (p := ⟨gb493, 0, none⟩) (Kd.R_types HO483.out BK493.out (by decide)) (fun _ hk => hk.2) (.slice Ao22 t488.length co22)) (fun _ hk => hk.2) (.int .i64 t491)) (fun _ hk => hk.2) (.int .i64 t492)) (fun _ h_ => h_.1))) hb); replace HO490 := ak_ (Kd.R_below (by (with_reducible repeat (first | apply Kd.R_alloc | apply Kd.R_drewN | apply Kd.R_drew)); exact (Kd.R_mono (Kd.R_far (p := ⟨gb493, 2, none⟩) (Kd.R_far (p := ⟨gb493, 1, none⟩) (Kd.R_far (p := ⟨gb493, 0, none⟩) (Kd.R_types HO490.out BK493.out (by decide)) (fun _ hk => hk.2) (.slice Ao22 t488.length co22)) (fun _ hk => hk.2) (.int .i64 t491)) (fun _ hk => hk.2) (.int .i64 t492)) (fun _ h_ => h_.1))) hb); replace BK479 := ak_ (blk_below (g := gb479) (o := .cells #[.slice A0_0 l0_0.length c0_0, .int .i64 a0_1, .int .i64 a0_2] 24 (0, 0)) (by (with_reducible repeat (first | refine kN_ ?_ _ | refine k1_ ?_ | refine ka_ ?_ _)); refine blk_far ?_ NB479_493.out _; (with_reducible repeat (first | refine kN_ ?_ _ | refine k1_ ?_ | refine ka_ ?_ _)); refine blk_far ?_ NB479_493.out _; (with_reducible repeat (first | refine kN_ ?_ _ | refine k1_ ?_ | refine ka_ ?_ _)); refine blk_far ?_ NB479_493.out _; exact pk BK479.out) hb); replace BK493 := ak_ (blk_below (g := gb493) (o := .cells #[.slice Ao22 t488.length co22, .int .i64 t491, .int .i64 t492] 33 (0, 0)) (by (with_reducible repeat (first | refine kN_ ?_ _ | refine k1_ ?_ | refine ka_ ?_ _)); refine blk_put (cs := #[.slice Ao22 t488.length co22, .int .i64 t491, .int .i64 0]) ?_ 2 _ rfl; (with_reducible repeat (first | refine kN_ ?_ _ | refine k1_ ?_ | refine ka_ ?_ _)); refine blk_put (cs := #[.slice Ao22 t488.length co22, .int .i64 0, .int .i64 0]) ?_ 1 _ rfl; (with_reducible repeat (first | refine kN_ ?_ _ | refine k1_ ?_ | refine ka_ ?_ _)); refine blk_put (cs := #[.slice none 0 0, .int .i64 0, .int .i64 0]) ?_ 0 _ rfl; exact pk BK493.out) hb); replace HB := ak_ (bs_ bl_ hb); (try clear hb); (try clear hb2); (try clear hk); (try clear hi)))
  (try simp only [Act.put, setIfInBounds_toArray, set_cons_zero, set_cons_succ])
  go_cut [34] (fun v34 wc => ∃ (kq : Nat) (x34_10 : Bool), v34 = .bool x34_10 ∧ Aside0 (laws_FnExactCountCampsReached.j0 kq x34_10 l0_0 a0_1 a0_2 t488 t491 t492 = some r) ∧ Aside0 (kq ≤ k) ∧ Aside0 (Kd.R (Kd.int .i64) 3 wc w.heap.size (fun _ => True) (.slice Ao22 t488.length co22) t488) ∧ Aside0 (wc.heap[gb479]? = some (.cells #[(.slice A0_0 l0_0.length c0_0), .int .i64 a0_1, .int .i64 a0_2] 24 (0, 0))) ∧ Aside0 (wc.heap[gb493]? = some (.cells #[(.slice Ao22 t488.length co22), .int .i64 t491, .int .i64 t492] 33 (0, 0))) ∧ Aside0 (Below w.heap.size w wc))
  case first =>
   have H := HC11.out
   clear HC11
   by_cases c26 : t494 = t486
   ·
    rw [if_pos c26] at H
    have c26b0 : (t494 == t486) = true := beq_iff_eq.mpr c26
    have c26b1 : (t494 != t486) = false := bne_eq_false_iff_eq.mpr c26
    clear c26
    (first | rw [c26b0] | (simp only [i64_w, i32_w]; rw [c26b0]) | rw [c26b1] | skip)
    have H' := ak_ H
    clear H
    go_wp2
    go_meet
    case rel => exact ⟨_, ((t495 != t487)), (ry_), H', ⟨by first | omega | exact Nat.le_refl _⟩, ⟨by (with_reducible repeat (first | apply Kd.R_alloc | apply Kd.R_drewN | apply Kd.R_drew)); exact Kd.R_mono HO490.out (fun _ hk => trivial)⟩, ⟨pk BK479.out⟩, ⟨pk BK493.out⟩, ⟨bl_⟩⟩
   ·
    rw [if_neg c26] at H
    have c26b0 : (t494 == t486) = false := beq_eq_false_iff_ne.mpr c26
    have c26b1 : (t494 != t486) = true := bne_iff_ne.mpr c26
    (first | rw [c26b0] | (simp only [i64_w, i32_w]; rw [c26b0]) | rw [c26b1] | skip)
    have H' := ak_ H
    clear H
    go_wp2
    go_meet
    case rel => exact ⟨_, (true), (ry_), H', ⟨by first | omega | exact Nat.le_refl _⟩, ⟨by (with_reducible repeat (first | apply Kd.R_alloc | apply Kd.R_drewN | apply Kd.R_drew)); exact Kd.R_mono HO490.out (fun _ hk => trivial)⟩, ⟨pk BK479.out⟩, ⟨pk BK493.out⟩, ⟨bl_⟩⟩
  case rest =>
   clear HC11
   try clear c1
   try clear c2
   try clear p2
   try clear c3
   try clear c3b0
   try clear c4
   try clear c10
   try clear c13
   try clear c23
   try clear c24
   try clear c26
   try clear c26b0
   try clear c26b1
   try clear hcz13_0
   try clear hcz13_1
   try clear hcz13_2
   try clear hcz15_0
   try clear hcz15_1
   try clear hcz15_2
   try clear hcz19_0
   try clear hcz19_1
   try clear hcz19_2
   try clear hcz24_0
   try clear hcz24_1
   try clear hcz24_2
   try clear hcz5_0
   try clear hcz5_1
   try clear hcz5_2
   try clear hfz13_0
   try clear hfz13_1
   try clear hfz13_2
   try clear hfz15_0
   try clear hfz15_1
   try clear hfz15_2
   try clear hfz19_0
   try clear hfz19_1
   try clear hfz19_2
   try clear hfz24_0
   try clear hfz24_1
   try clear hfz24_2
   try clear hfz5_0
   try clear hfz5_1
   try clear hfz5_2
   obtain ⟨kq, x34_10, rfl, HA, HJ10, HO_494000, BK479, BK493, HB⟩ := hcut
   cases kq with
   | zero => exact absurd HA.out (by simp [laws_FnExactCountCampsReached.j0])
   | succ kj10 =>
    have H := HA.out
    clear HA
    simp only [laws_FnExactCountCampsReached.j0] at H
    by_cases c27 : x34_10 = true
    ·
     subst c27
     have H1 : (none) = some r := by rw [if_pos rfl] at H; exact H
     clear H
     have H := H1
     clear H1
     exact absurd H (by simp)
    ·
     replace c27 := Bool.eq_false_iff.mpr c27
     subst c27
     have H1 : ((laws_toNight.f kj10 l0_0 a0_1 a0_2).bind fun bt496 => ((laws_eqNight.f kj10 t488 t491 t492 bt496.1 bt496.2.1 bt496.2.2).bind fun t501 => (if t501 = true then (some true) else (none)))) = some r := by rw [if_neg (show ¬ (false = true) by decide)] at H; exact H
     clear H
     have H := H1
     clear H1
     replace H := Option.bind_eq_some_iff.mp H
     obtain ⟨⟨t496, t499, t500⟩, A280, H⟩ := H
     replace H : ((laws_eqNight.f kj10 t488 t491 t492 t496 t499 t500).bind fun t501 => (if t501 = true then (some true) else (none))) = some r := H
     have A28 := ak_ A280
     clear A280
     replace H := Option.bind_eq_some_iff.mp H
     obtain ⟨t501, A290, H⟩ := H
     replace H : (if t501 = true then (some true) else (none)) = some r := H
     have A29 := ak_ A290
     clear A290
     by_cases c30 : t501 = true
     ·
      subst c30
      have H1 : (some true) = some r := by rw [if_pos rfl] at H; exact H
      clear H
      have H := H1
      clear H1
      obtain rfl := Option.some.inj H
      try go_wp2
      have n0_ := ak_ (Kd.R_drew HO_494000.out)
      have n1_ := ak_ (k1_ BK479.out)
      have n2_ := ak_ (k1_ BK493.out)
      have n3_ := ak_ (b1_ HB.out)
      clear HO_494000 BK479 BK493 HB
      have HO_494000 := n0_; have BK479 := n1_; have BK493 := n2_; have HB := n3_
      clear n0_ n1_ n2_ n3_
      refine start_ (n := 5) (S := fun w' => w'.cell? ⟨gb493, 0, none⟩ = some (.slice Ao22 t488.length co22) ∧ w'.cell? ⟨gb493, 1, none⟩ = some (.int .i64 t491) ∧ w'.cell? ⟨gb493, 2, none⟩ = some (.int .i64 t492) ∧ w'.cell? ⟨gb479, 0, none⟩ = some (.slice A0_0 l0_0.length c0_0) ∧ w'.cell? ⟨gb479, 1, none⟩ = some (.int .i64 a0_1) ∧ w'.cell? ⟨gb479, 2, none⟩ = some (.int .i64 a0_2)) (ds := []) #[false, false, false, false, false] (by kernel_rfl) rfl rfl ⟨(blk_cell BK493.out 0).trans rfl, (blk_cell BK493.out 1).trans rfl, (blk_cell BK493.out 2).trans rfl, (blk_cell BK479.out 0).trans rfl, (blk_cell BK479.out 1).trans rfl, (blk_cell BK479.out 2).trans rfl⟩ (fun hHeld => ?_)
      generalize wc.drew = w31 at HO_494000 BK479 BK493 HB hHeld ⊢
      refine take_ (i := 0) (N := some 35) (v := ?_) (a' := ?_) #[true, false, false, false, false] rfl rfl (by kernel_rfl) (fun _ _ _ h => h) (Or.inl ⟨by rfl, ?_⟩) hHeld ?_ ?_
      rotate_left
      ·
       rintro w' ⟨s0, s1, s2, s3, s4, s5⟩
       go_simp
       with_reducible rfl
      rotate_left
      ·
       simp only [Act.put, setIfInBounds_toArray, set_cons_zero, set_cons_succ, i64_w, i32_w]
       rfl
      refine take_ (i := 1) (N := some 36) (v := ?_) (a' := ?_) #[true, true, false, false, false] rfl rfl (by kernel_rfl) (fun _ _ _ h => h) (Or.inl ⟨by rfl, ?_⟩) hHeld ?_ ?_
      rotate_left
      ·
       rintro w' ⟨s0, s1, s2, s3, s4, s5⟩
       go_simp
       with_reducible rfl
      rotate_left
      ·
       simp only [Act.put, setIfInBounds_toArray, set_cons_zero, set_cons_succ, i64_w, i32_w]
       rfl
      refine one_ (i := 2) (N := some 37) #[true, true, true, false, false] rfl rfl (by kernel_rfl) (by decide) (fun K hK => ?_)
      refine goes_ Try.func13 (by kernel_rfl) rfl #[.agg #[.slice A0_0 l0_0.length c0_0, .int .i64 a0_1, .int .i64 a0_2]] (by rfl) rfl rfl rs_ ?_
      with_reducible refine (laws_toNight.calls kj10 _ _ l0_0 a0_1 a0_2 t496 t499 t500 _ ?side1 ?side2 A28.out).mono ?_
      (case side1 => exact cs_ (Kd.C_below HR0_0.out HB.out))
      (case side2 => exact HC0_0.out)
      rintro e w32 ⟨v497, rfl, ho0, hb⟩
      refine ⟨_, rfl, ?_⟩
      have n0_ := ak_ (Kd.R_elder' (Kd.pR HO_494000.out) (Kd.R_base ho0) hb)
      have n1_ := ak_ (Kd.R_lower (Kd.R_new' ho0 (Kd.R_lt (Kd.pR HO_494000.out))) (bz_ bl_))
      have n2_ := ak_ (blk_below (pk BK479.out) hb)
      have n3_ := ak_ (blk_below (pk BK493.out) hb)
      have n4_ := ak_ (bs_ bl_ hb)
      clear HO_494000 BK479 BK493 HB
      have HO_494000 := n0_; have HO498 := n1_; have BK479 := n2_; have BK493 := n3_; have HB := n4_
      clear n0_ n1_ n2_ n3_ n4_
      (try clear hb)
      (try clear hb2)
      (try clear hk)
      (try clear hi)
      (try clear ho0)
      obtain ⟨Ao33, co33, eo33⟩ := Kd.R_slice HO498.out
      (first | subst eo33 | (injection eo33 with f1_ f2_ f3_; have f4_ := f1_.symm; have f5_ := f3_.symm; clear f1_ f2_ f3_; subst f4_; subst f5_))
      refine hK.out _ _ ⟨(blk_cell BK493.out 0).trans rfl, (blk_cell BK493.out 1).trans rfl, (blk_cell BK493.out 2).trans rfl, (blk_cell BK479.out 0).trans rfl, (blk_cell BK479.out 1).trans rfl, (blk_cell BK479.out 2).trans rfl⟩ (fun hHeld => ?_)
      clear hK K
      refine nm_ ?_
      refine one_ (i := 3) (N := some 38) #[true, true, true, true, false] rfl rfl (by kernel_rfl) (by decide) (fun K hK => ?_)
      refine goes_ Try.func17 (by kernel_rfl) rfl #[.agg #[.slice Ao22 t488.length co22, .int .i64 t491, .int .i64 t492], .agg #[.slice Ao33 t496.length co33, .int .i64 t499, .int .i64 t500]] (by rfl) rfl rfl rs_ ?_
      with_reducible refine (laws_eqNight.calls kj10 _ _ t488 t491 t492 _ _ t496 t499 t500 true _ ?side1 ?side2 ?side3 ?side4 A29.out).mono ?_
      (case side1 => exact cs_ ((Kd.R_reads' HO_494000.out).2.2))
      (case side2 => exact (Kd.R_reads' HO_494000.out).2.1)
      (case side3 => exact cs_ ((Kd.R_reads' HO498.out).2.2))
      (case side4 => exact (Kd.R_reads' HO498.out).2.1)
      rintro e w34 ⟨rfl, hb⟩
      refine ⟨_, rfl, ?_⟩
      have n0_ := ak_ (Kd.R_below (Kd.pR HO_494000.out) hb)
      have n1_ := ak_ (Kd.R_below (Kd.pR HO498.out) hb)
      have n2_ := ak_ (blk_below (pk BK479.out) hb)
      have n3_ := ak_ (blk_below (pk BK493.out) hb)
      have n4_ := ak_ (bs_ bl_ hb)
      clear HO_494000 HO498 BK479 BK493 HB
      have HO_494000 := n0_; have HO498 := n1_; have BK479 := n2_; have BK493 := n3_; have HB := n4_
      clear n0_ n1_ n2_ n3_ n4_
      (try clear hb)
      (try clear hb2)
      (try clear hk)
      (try clear hi)
      refine hK.out _ _ ⟨(blk_cell BK493.out 0).trans rfl, (blk_cell BK493.out 1).trans rfl, (blk_cell BK493.out 2).trans rfl, (blk_cell BK479.out 0).trans rfl, (blk_cell BK479.out 1).trans rfl, (blk_cell BK479.out 2).trans rfl⟩ (fun hHeld => ?_)
      clear hK K
      refine nm_ ?_
      refine pure_ (i := 4) (N := some 39) (v := ?_) (a' := ?_) #[true, true, true, true, true] rfl rfl (by kernel_rfl) (fun _ _ _ h => h) (Or.inl ⟨by rfl, ?_⟩) ?_ ?_
      rotate_left
      ·
       intro w'
       go_simp
       with_reducible rfl
      rotate_left
      ·
       simp only [Act.put, setIfInBounds_toArray, set_cons_zero, set_cons_succ, i64_w, i32_w]
       rfl
      refine done_ (by kernel_rfl) ?_
      try go_wp2
      go_ret
      exact ⟨rx_, bl_⟩
     ·
      replace c30 := Bool.eq_false_iff.mpr c30
      subst c30
      have H1 : (none) = some r := by rw [if_neg (show ¬ (false = true) by decide)] at H; exact H
      clear H
      have H := H1
      clear H1
      exact absurd H (by simp)
end Go.Proofs.Ytmdbhpbogbekmaa.QNt
