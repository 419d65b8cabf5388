/- Contracts of functions of the given program, walked: each call returns what its Lean function says. Conditions: those that stand at each theorem. (Written by a program of this session.) -/
import Derived.Test.YthkchdfkeieabaaQGrx0
import Derived.Test.YthkchdfkeieabaaQGrx12
import Derived.Test.YthkchdfkeieabaaQGrx13
import Derived.Test.YthkchdfkeieabaaQGrx14
import Derived.Test.YthkchdfkeieabaaQGrx15
import Derived.Test.YthkchdfkeieabaaQGrx16
import Derived.Test.YthkchdfkeieabaaQGrx17
namespace Go.Proofs.Ythkchdfkeieabaa.QGr
open Go.RowKit Go.Proofs.YthkchdfkeieabaaW.PrintWords Go.Proofs.YthkchdfkeieabaaW.PrintLast Go.Proofs.YthkchdfkeieabaaW.PrintMore
open List (setIfInBounds_toArray set_cons_zero set_cons_succ map_toArray map_cons map_nil)
attribute [local go_sem] max2_int min2_int max_two min_two max_three min_three max_four min_four
set_option linter.unusedVariables false
set_option maxHeartbeats 8000000
set_option maxRecDepth 100000
set_option linter.unusedSimpArgs false
theorem ls_lead {α : Type} {d : Kd α} {eI e g n cap base : Nat} {ok : Nat → Prop} {W : World} {ls : List (List α)} {cl : Array Value} (h : Kd.S (Kd.slice eI d) e W base ok (.slice (some ⟨g, 0, none⟩) n cap) ls) (hb : W.heap[g]? = some (.cells cl e (0, 0))) :
  ∃ f : Nat → Nat, ∀ (j : Nat) (l : List α), ls[j]? = some l → ∃ u : Value, cl[j]? = some u ∧ d.R eI W base (fun k => (ok k ∧ k ≠ g) ∧ f k = j) u l := by
 obtain ⟨f, hown, inner, ho, hl, hr⟩ := h
 refine ⟨f, fun j l hj => ?_⟩
 obtain ⟨v, hc, hR⟩ := hr j (l, j) (Kd.zip_at hj)
 rcases ho.2 with ⟨hv, _⟩ | ⟨g', cap', cur, hv, -, hh, -, -, -, ht⟩
 ·cases hv
 cases hv
 rw [hb] at hh
 injection hh with hh
 injection hh with hh _
 subst hh
 have hjl := (List.getElem?_eq_some_iff.1 hj).1
 have hsz : (Kd.tag f (Kd.slice eI d)).sz = 1 := rfl
 rw [hsz] at hc ht
 refine ⟨v, ?_, Kd.R_mono hR (fun k hk => ⟨⟨hk.1.1, fun e_ => hk.1.2 (by rw [e_]; rfl)⟩, hk.2⟩)⟩
 have h2 : inner[j]? = some v := by
  have h3 := congrArg (fun l : List Value => l[0]?) hc
  simp only [List.getElem?_take, List.getElem?_drop, Nat.mul_one, Nat.add_zero] at h3
  simpa using h3
 rw [← ht, List.getElem?_take] at h2
 split at h2
 ·rw [Array.getElem?_toList] at h2
  exact h2
 ·exact absurd h2 (by simp)
def edRel (cl : Array Value) (ls : List (List Int)) (acc : List S110) (res : List REdge) : Prop := acc.length = res.length ∧ ∀ (i : Nat) (a : S110) (r : REdge), acc[i]? = some a → res[i]? = some r → r.f0 = a.f0 ∧ r.f1 = a.f1 ∧ ls[i]? = some a.f2 ∧ cl[i]? = some (.slice r.A r.n r.c)
theorem edRel.snoc {cl : Array Value} {ls : List (List Int)} {acc : List S110} {res : List REdge} (h : edRel cl ls acc res) {j : Nat} (hj : acc.length = j) {q c : Int} {l : (List Int)} {A : Option Addr} {n cc : Nat} (hl : ls[j]? = some l) (hc : cl[j]? = some (.slice A n cc)) : edRel cl ls (acc ++ [⟨q, c, l⟩]) (res ++ [⟨q, c, A, n, cc⟩]) := by
 refine ⟨by rw [List.length_append, List.length_append, h.1]; rfl, fun i a r ha hr => ?_⟩
 rcases Nat.lt_or_ge i acc.length with hi | hi
 ·rw [List.getElem?_append_left hi] at ha
  rw [List.getElem?_append_left (by rw [← h.1]; exact hi)] at hr
  exact h.2 i a r ha hr
 ·have hi' := (List.getElem?_eq_some_iff.1 ha).1
  rw [List.length_append, List.length_singleton] at hi'
  have e : i = acc.length := by omega
  subst e
  rw [List.getElem?_append_right (Nat.le_refl _), Nat.sub_self] at ha
  rw [h.1, List.getElem?_append_right (Nat.le_refl _), Nat.sub_self] at hr
  obtain rfl := Option.some.inj ha
  obtain rfl := Option.some.inj hr
  rw [hj]
  exact ⟨rfl, rfl, hl, hc⟩
theorem edRel.shut {W : World} {base g n cap : Nat} {ok okr : Nat → Prop} {ls : List (List Int)} {cl : Array Value} {v : Value} {es : List S110} {res : List REdge} (h : edRel cl ls es res) (hls : Kd.S (Kd.slice 3 (Kd.int .i64)) 29 W base ok (.slice (some ⟨g, 0, none⟩) n cap) ls) (hb : W.heap[g]? = some (.cells cl 29 (0, 0)))
  (hR : kre.R 110 W base okr v res) (hne : 110 ∉ 3 :: (Kd.int .i64).E) : Kd.S k110 110 W base (fun _ => True) v es := by
 obtain ⟨f, hf⟩ := ls_lead hls hb
 have hL : LeadT W base (fun k => some k ≠ v.ownBlock) f es.zipIdx res := LeadT.of (by rw [List.length_zipIdx]; exact h.1) (fun j z r hz hr => by
  rw [List.getElem?_zipIdx, Nat.zero_add] at hz
  obtain ⟨a, ha, rfl⟩ := Option.map_eq_some_iff.1 hz
  obtain ⟨e0, e1, hl, hc⟩ := h.2 j a r ha hr
  obtain ⟨u, hu, hR2⟩ := hf j a.f2 hl
  rw [hc] at hu
  obtain rfl := Option.some.inj hu
  refine ⟨e0, e1, Kd.R_mono (Kd.R_bound hR2) (fun k hk => ⟨fun e_ => ?_, hk.1.2⟩)⟩
  obtain ⟨_, _, _, q, hq, cells, hcq⟩ := hk
  obtain ⟨cells2, hc2⟩ := Kd.R_typed hR k e_.symm
  rw [hcq] at hc2
  injection hc2 with hc2
  injection hc2 with _ hc2
  exact hne (hc2 ▸ hq))
 have h2 := lead_shut hR hL (by rw [List.zipIdx_map_snd]; exact List.nodup_range') (fun k hk => hk)
 rw [List.zipIdx_map_fst] at h2
 exact h2
def crewEd (k : Nat) (ov : List Bool) (tq : Bool) : List (List Int) → List S110 → Option (List S110)
 | [], acc => some acc
 | l :: ls, acc => (impl_State_moved.f k ov tq l).bind fun st => (impl_State_code.f k st.1 st.2).bind fun q => if acc.length < 1000000 then crewEd k ov tq ls (acc ++ [⟨q, 1, l⟩]) else none
def crewG (k : Nat) (ws : List Int) (rs : List Bool) (most : Int) (s : Int) : Option (List S110) :=
 (impl_stateOf.f k (ws.length : Int) s).bind fun st => (impl_Crew_rides.f k ws rs most st.1 st.2).bind fun ls => if ls.length < 1000000 then crewEd k st.1 st.2 ls [] else none
theorem impl_Crew_graph.calls_1 (k : Nat) (Bn Bc Bl : Nat) (Aw : Option Addr) (cw : Nat) (ws : List Int) (Ar : Option Addr) (cr : Nat) (rs : List Bool) (most s : Int) (es : List S110) (w : World)
  (hBn : w.heap[Bn]? = some (.cells #[.int .i64 (ws.length : Int)] 3 (0, 0))) (hBc : w.heap[Bc]? = some (.cells #[.slice Aw ws.length cw, .slice Ar rs.length cr, .int .i64 most] 43 (0, 0))) (hBl : w.heap[Bl]? = some (.cells #[.bool false] 4 (0, 0)))
  (hw : Kd.C (Kd.int .i64) w Aw ws.length ws) (hcw : ws.length ≤ cw) (hr : Kd.C Kd.bool w Ar rs.length rs) (hcr : rs.length ≤ cr) (h : crewG k ws rs most s = some es) :
  Calls Try.prog 138 #[.int .i64 s, .pointer (some ⟨Bn, 0, none⟩), .pointer (some ⟨Bc, 0, none⟩), .pointer (some ⟨Bl, 0, none⟩)] w fun e w' => ∃ v : Value, e = .returned v ∧ Kd.S k110 110 w' w.heap.size (fun _ => True) v es ∧ Below w.heap.size w w' := by
 have hu := Try.underlying43
 have hu2 := Try.underlying110
 have hu3 := Try.underlying115
 unfold crewG at h
 obtain ⟨⟨ov, tq⟩, h1, h⟩ := Option.bind_eq_some_iff.mp h
 obtain ⟨ls, h2, h⟩ := Option.bind_eq_some_iff.mp h
 by_cases hls : ls.length < 1000000
 rotate_left
 ·rw [if_neg hls] at h; exact absurd h (by simp)
 rw [if_pos hls] at h
 have A1 := ak_ fun (W : World) => impl_stateOf.calls k (ws.length : Int) s ov tq W h1
 have A2 := ak_ fun (W : World) (hb : Below w.heap.size w W) (Ao : Option Addr) (co : Nat) (ho : Kd.C Kd.bool W Ao ov.length ov) (hco : ov.length ≤ co) => impl_Crew_rides.calls k Aw cw ws Ar cr rs most Ao co ov tq ls W (Kd.C_below hw hb) hcw (Kd.C_below hr hb) hcr ho hco h2
 have HLS := ak_ hls
 have H := ak_ h
 have HB := ak_ (Below.refl w.heap.size w)
 have hn0 := blk_cell hBn 0
 have hl0 := blk_cell hBl 0
 have hc0 := blk_cell hBc 0
 have hc1 := blk_cell hBc 1
 have hc2 := blk_cell hBc 2
 simp at hn0
 simp at hl0
 simp at hc0
 simp at hc1
 simp at hc2
 have BN := ak_ hBn
 have BC := ak_ hBc
 have BL := ak_ hBl
 clear h h1 h2 hls hw hcw hr hcr hBn hBc hBl
 go_enter Try.func138, Try.ntmps138
 go_upto_region 2 with (first | (go_at_call 123; refine (A1.out _).mono ?_; rintro e w13 ⟨v13, rfl, ho, hb⟩; obtain ⟨Ao, co, rfl⟩ := Kd.R_slice ho; have OV := ak_ ho; clear hn0 hl0 hc0 hc1 hc2; have n0_ := ak_ (blk_below BN.out hb); have n1_ := ak_ (blk_below BC.out hb); have n2_ := ak_ (blk_below BL.out hb); have n3_ := ak_ (bs_ HB.out hb); clear BN BC BL HB hb ho; have BN := n0_; have BC := n1_; have BL := n2_; have HB := n3_; clear n0_ n1_ n2_ n3_))
 have hkr := Kd.R_alloc (Kd.S_R (gp_lit0 kre 110 w13 (bz_ HB.out))) (.cells #[.slice Ao ov.length co, .bool tq] 115)
 have hk6 := gp_new2 w13 (.cells #[] 110) (.cells #[.slice Ao ov.length co, .bool tq] 115)
 have hb5 := (ba_ (ba_ (Below.refl w13.heap.size w13) (.cells #[] 110)) (.cells #[.slice Ao ov.length co, .bool tq] 115))
 generalize (w13.alloc (.cells #[] 110)).alloc (.cells #[.slice Ao ov.length co, .bool tq] 115) = w5 at hkr hk6 hb5 ⊢
 generalize Value.slice (some ⟨w13.heap.size, 0, none⟩) 0 0 = v5 at hkr ⊢
 generalize w13.heap.size + 1 = gb6 at hk6 ⊢
 have n0_ := ak_ (blk_below BN.out hb5); have n1_ := ak_ (blk_below BC.out hb5); have n2_ := ak_ (blk_below BL.out hb5); have n3_ := ak_ (bs_ HB.out hb5); have n4_ := ak_ (Kd.R_below OV.out hb5); clear BN BC BL HB OV hb5; have BN := n0_; have BC := n1_; have BL := n2_; have HB := n3_; have OV := n4_; clear n0_ n1_ n2_ n3_ n4_
 have HR := ak_ hkr
 have BK6 := ak_ hk6
 have hq0 := blk_cell BC.out 0
 have hq1 := blk_cell BC.out 1
 have hq2 := blk_cell BC.out 2
 have hq3 := blk_cell BK6.out 0
 have hq4 := blk_cell BK6.out 1
 simp at hq0
 simp at hq1
 simp at hq2
 simp at hq3
 simp at hq4
 clear hkr hk6
 go_wp2_with (first | (go_at_call 139; refine (A2.out _ (bb_ HB.out) Ao co (Kd.R_reads' OV.out).2.2 (Kd.R_reads' OV.out).2.1).mono ?_; rintro e w17 ⟨v17, rfl, ho, hb⟩; obtain ⟨Al, cl_, rfl⟩ := Kd.S_slice ho; have HLR := ak_ (Kd.S_lower ho (bz_ (bb_ HB.out))); clear hq0 hq1 hq2 hq3 hq4; have n0_ := ak_ (blk_below (pk BN.out) hb); have n1_ := ak_ (blk_below (pk BC.out) hb); have n2_ := ak_ (blk_below (pk BL.out) hb); have n3_ := ak_ (blk_below (pk BK6.out) hb); have n4_ := ak_ (bs_ (bb_ HB.out) hb); have n5_ := ak_ (Kd.R_below (Kd.pR OV.out) hb); have n6_ := ak_ (Kd.R_below (Kd.pR HR.out) hb); clear BN BC BL BK6 HB OV HR hb ho; have BN := n0_; have BC := n1_; have BL := n2_; have BK6 := n3_; have HB := n4_; have OV := n5_; have HR := n6_; clear n0_ n1_ n2_ n3_ n4_ n5_ n6_))
 obtain ⟨gl, cl, hAl⟩ : ∃ (gl : Nat) (cl : Array Value), ls.length = 0 ∨ (Al = some ⟨gl, 0, none⟩ ∧ w17.heap[gl]? = some (.cells cl 29 (0, 0))) := by
  rcases Nat.eq_zero_or_pos ls.length with h0 | h0
  ·exact ⟨0, #[], .inl h0⟩
  ·obtain ⟨g, cap, e, -, -, cl, hc⟩ := Kd.S_form HLR.out h0
   injection e with e1 _ e3
   exact ⟨g, cl, .inr ⟨e1, hc⟩⟩
 have HAL := ak_ hAl
 have HER := ak_ (show edRel cl ls [] [] from ⟨rfl, fun i a r h _ => by simp at h⟩)
 clear hAl
 go_loopg [7, 19] ls.length (fun gg v7 v19 wr => ∃ (j : Nat) (acc : List S110) (res : List REdge), v19 = .int .i64 (j : Int) ∧ Aside0 (j ≤ ls.length ∧ ls.length - j ≤ gg ∧ acc.length = j) ∧ Aside0 (crewEd k ov tq (ls.drop j) acc = some es) ∧ Aside0 (edRel cl ls acc res) ∧ Aside0 (kre.R 110 wr w.heap.size (fun _ => True) v7 res) ∧ Aside0 (Kd.S (Kd.slice 3 (Kd.int .i64)) 29 wr w.heap.size (fun _ => True) (.slice Al ls.length cl_) ls) ∧ Aside0 (ls.length = 0 ∨ (Al = some ⟨gl, 0, none⟩ ∧ wr.heap[gl]? = some (.cells cl 29 (0, 0)))) ∧ Aside0 (wr.heap[gb6]? = some (.cells #[.slice Ao ov.length co, .bool tq] 115 (0, 0))) ∧ Aside0 (Kd.R Kd.bool 4 wr w.heap.size (fun _ => True) (.slice Ao ov.length co) ov) ∧ Aside0 (wr.heap[Bl]? = some (.cells #[.bool false] 4 (0, 0))) ∧ Aside0 (Below w.heap.size w wr))
 case atStart => exact ⟨0, [], [], rfl, ⟨⟨Nat.zero_le _, Nat.le_refl _, rfl⟩⟩, H, HER, ⟨Kd.pR HR.out⟩, ⟨Kd.pS HLR.out⟩, HAL, ⟨pk BK6.out⟩, ⟨Kd.pR OV.out⟩, ⟨pk BL.out⟩, ⟨(bb_ HB.out)⟩⟩
 case round =>
  clear H HER HR HLR HAL BK6 OV BL HB BN BC
  obtain ⟨j, acc, res, rfl, HJ, H, HER, HR, HLR, HAL, BK6, OV, BL, HB⟩ := hrel
  by_cases hj : j < ls.length
  ·have j1 : decide ((j : Int) < (ls.length : Int)) = true := decide_eq_true (by omega)
   have j1n : decide (j < ls.length) = true := decide_eq_true hj
   have j0p : ((0 : Int) ≤ (j : Int)) = True := eq_true (by omega)
   have j1p : ((j : Int) < (ls.length : Int)) = True := eq_true (by omega)
   rcases HAL.out with h0 | ⟨rfl, hbl⟩
   ·exact absurd h0 (by omega)
   obtain ⟨vi, oki, hcell, -, hRi, -, -⟩ := fr_lend HLR.out (j : Int) (by omega) (by omega)
   rw [Int.toNat_natCast] at hcell hRi
   obtain ⟨Aj, cj, rfl⟩ := Kd.R_slice hRi
   have hcl : cl[j]? = some (.slice Aj (ls.getD j []).length cj) := by rw [← blk_cell hbl]; exact hcell
   obtain ⟨l, hl⟩ : ∃ l, l = ls.getD j [] := ⟨_, rfl⟩
   rw [← hl] at hcell hRi hcl
   have hlj : ls[j]? = some l := by rw [hl, List.getD_eq_getElem?_getD, List.getElem?_eq_getElem hj]; rfl
   have h := H.out
   rw [List.drop_eq_getElem_cons hj, show ls[j] = l from by rw [List.getElem?_eq_getElem hj] at hlj; exact Option.some.inj hlj] at h
   simp only [crewEd] at h
   obtain ⟨⟨mo, mt⟩, h3, h⟩ := Option.bind_eq_some_iff.mp h
   obtain ⟨q, h4, h⟩ := Option.bind_eq_some_iff.mp h
   by_cases hac : acc.length < 1000000
   rotate_left
   ·rw [if_neg hac] at h; exact absurd h (by simp)
   rw [if_pos hac] at h
   have A3 := ak_ fun (W : World) (hb : Below wr.heap.size wr W) => impl_State_moved.calls k Ao co ov tq Aj cj l mo mt W (Kd.C_below (Kd.R_reads' OV.out).2.2 hb) (Kd.R_reads' OV.out).2.1 (Kd.C_below (Kd.R_reads' hRi).2.2 hb) (Kd.R_reads' hRi).2.1 h3
   have A4 := ak_ fun (W : World) (Am : Option Addr) (cm : Nat) (hm : Kd.C Kd.bool W Am mo.length mo) (hcm : mo.length ≤ cm) => impl_State_code.calls k Am cm mo mt q W hm hcm h4
   have HBR := ak_ (Below.refl wr.heap.size wr)
   have HER2 := ak_ (HER.out.snoc HJ.out.2.2 (q := q) (c := 1) hlj hcl)
   have H2 := ak_ h
   have HACC := ak_ (And.intro hac HER.out.1)
   have BLS := ak_ hbl
   have HJJ := ak_ hj
   have hw19 : IntKind.i64.wrap ((j : Int) + 1) = ((j + 1 : Nat) : Int) := by have := HLS.out; rw [IntWalk.i64_in _ ⟨by omega, by omega⟩]; omega
   have hz0 := blk_cell BK6.out 0
   have hz1 := blk_cell BK6.out 1
   have hz2 := blk_cell BL.out 0
   simp at hz0
   simp at hz1
   simp at hz2
   clear h h3 h4 H hl hlj hcl hRi hbl hac HER HAL hj
   go_upto_region 8 with (fail)
   go_wp2_with (first | (go_at_call 125; refine (A3.out _ (by repeat (first | (with_reducible first | exact HBR.out | apply ba_ | apply bN_ | apply b1_) | exact HBR.out))).mono ?_; rintro e w30 ⟨v30, rfl, ho, hb⟩; obtain ⟨Am, cm, rfl⟩ := Kd.R_slice ho; have OM := ak_ ho; clear A3; have n0_ := ak_ (blk_below BK6.out hb); have n1_ := ak_ (blk_below BL.out hb); have n2_ := ak_ (blk_below BLS.out hb); have n3_ := ak_ (Kd.R_below (Kd.pR HR.out) hb); have n4_ := ak_ (Kd.S_below (Kd.pS HLR.out) hb); have n5_ := ak_ (Kd.R_below (Kd.pR OV.out) hb); have n6_ := ak_ (bs_ (bb_ HB.out) hb); clear BK6 BL BLS HR HLR OV HB hb ho HBR; have BK6 := n0_; have BL := n1_; have BLS := n2_; have HR := n3_; have HLR := n4_; have OV := n5_; have HB := n6_; clear n0_ n1_ n2_ n3_ n4_ n5_ n6_) | (go_at_call 126; refine (A4.out _ Am cm (Kd.R_reads' OM.out).2.2 (Kd.R_reads' OM.out).2.1).mono ?_; rintro e w31 ⟨rfl, hb⟩; clear A4 OM; have n0_ := ak_ (blk_below BK6.out hb); have n1_ := ak_ (blk_below BL.out hb); have n2_ := ak_ (blk_below BLS.out hb); have n3_ := ak_ (Kd.R_below (Kd.pR HR.out) hb); have n4_ := ak_ (Kd.S_below (Kd.pS HLR.out) hb); have n5_ := ak_ (Kd.R_below (Kd.pR OV.out) hb); have n6_ := ak_ (bs_ (bb_ HB.out) hb); clear BK6 BL BLS HR HLR OV HB hb; have BK6 := n0_; have BL := n1_; have BLS := n2_; have HR := n3_; have HLR := n4_; have OV := n5_; have HB := n6_; clear n0_ n1_ n2_ n3_ n4_ n5_ n6_) | ((with_reducible refine gate_builtin (b := .append) (xs := #[.tmp 27, .tmp 35]) rfl ?_); at_builtin; refine Kd.R_append kre (w0 := w) w.heap.size rfl (.tmp 27) (.tmp 35) 130 110 (.agg #[(.int .i64 0), (.int .i64 0), (.slice none 0 0)]) 40 rfl Try.underlying130 info110 rfl (by decide) (by omega) _ res ⟨q, 1, Aj, l.length, cj⟩ [.int .i64 q, .int .i64 1, .slice Aj l.length cj] (fun _ => True) (fun _ => False) rfl rfl ?aP (fun _ hk => hk.elim) (fun _ _ => trivial) ?aO ?aB ?aS ?aL ?_; (case aP => exact kre_M _ _ _ ⟨q, 1, Aj, l.length, cj⟩); (case aO => exact Kd.pR HR.out); (case aB => exact (bb_ HB.out)); (case aS => exact bz_ (bb_ HB.out)); (case aL => have := HACC.out; omega); intro v36 w36 ho hb hg hat; have n0_ := ak_ (blk_grown (pk BK6.out) hg (Kd.R_ne HR.out BK6.out (by decide))); have n1_ := ak_ (blk_grown (pk BL.out) hg (Kd.R_ne HR.out BL.out (by decide))); have n2_ := ak_ (blk_grown (pk BLS.out) hg (Kd.R_ne HR.out BLS.out (by decide))); have n3_ := ak_ (Kd.S_over' (Kd.pS HLR.out) (Kd.R_typed HR.out) (by decide) hg); have n4_ := ak_ (Kd.R_over' (Kd.pR OV.out) (Kd.R_typed HR.out) (by decide) hg); have n5_ := ak_ (hb); have n6_ := ak_ (ho); clear BK6 BL BLS HLR OV HB HR hg hat hb ho; have BK6 := n0_; have BL := n1_; have BLS := n2_; have HLR := n3_; have OV := n4_; have HB := n5_; have HR := n6_; clear n0_ n1_ n2_ n3_ n4_ n5_ n6_))
   go_roundg (ls.length - (j + 1))
   case measure => have := HJ.out; have := HJJ.out; omega
   case rel => exact ⟨j + 1, _, _, (by first | rfl | (simp; done)), ⟨⟨by have := HJJ.out; omega, Nat.le_refl _, by rw [List.length_append, HJ.out.2.2]; rfl⟩⟩, H2, HER2, ⟨Kd.pR HR.out⟩, ⟨Kd.pS HLR.out⟩, ⟨by first | exact .inr ⟨rfl, pk BLS.out⟩ | exact .inr ⟨trivial, pk BLS.out⟩⟩, ⟨pk BK6.out⟩, ⟨Kd.pR OV.out⟩, ⟨pk BL.out⟩, ⟨(bb_ HB.out)⟩⟩
  ·have j1 : decide ((j : Int) < (ls.length : Int)) = false := decide_eq_false (by omega)
   have j1n : decide (j < ls.length) = false := decide_eq_false hj
   have h := H.out
   rw [List.drop_of_length_le (by omega)] at h
   have HES := ak_ (show acc = es from Option.some.inj (show some acc = some es from h))
   clear h H hj
   go_wp2
   first | go_ret | go_ret2
   refine ⟨_, rfl, ?_, (bb_ HB.out)⟩
   rw [← HES.out]
   rcases HAL.out with h0 | ⟨rfl, hbl⟩
   ·have ha : acc = [] := List.eq_nil_of_length_eq_zero (by have := HJ.out; omega)
    have hr : res = [] := List.eq_nil_of_length_eq_zero (by rw [← HER.out.1, ha]; rfl)
    have h2 := HR.out
    rw [hr] at h2
    rw [ha]
    exact lead_shut (zs := []) (f := fun _ => 0) (okl := fun _ => False) (Kd.R_below h2 be_) trivial List.Pairwise.nil (fun k hk => hk.elim)
   ·exact HER.out.shut (Kd.S_below HLR.out be_) (blk_below hbl be_) (Kd.R_below HR.out be_) (by decide)
attribute [local go_sem] run_store_fn_
def grN (n : Nat) : Int := wrap64 (2 * 2 ^ min n 64)
theorem impl_Crew_graph.calls (Aw : Option Addr) (cw : Nat) (ws : List Int) (Ar : Option Addr) (cr : Nat) (rs : List Bool) (most : Int) (w : World) (hw : Kd.C (Kd.int .i64) w Aw ws.length ws) :
  Calls Try.prog 102 #[.agg #[.slice Aw ws.length cw, .slice Ar rs.length cr, .int .i64 most], .bool false] w fun e w' => ∃ Bn Bc Bl : Nat, e = .returned (.agg #[.int .i64 (grN ws.length), .func (.func 138) #[] #[.pointer (some ⟨Bn, 0, none⟩), .pointer (some ⟨Bc, 0, none⟩), .pointer (some ⟨Bl, 0, none⟩)]]) ∧
   (w'.heap[Bn]? = some (.cells #[.int .i64 (ws.length : Int)] 3 (0, 0)) ∧ w'.heap[Bc]? = some (.cells #[.slice Aw ws.length cw, .slice Ar rs.length cr, .int .i64 most] 43 (0, 0)) ∧ w'.heap[Bl]? = some (.cells #[.bool false] 4 (0, 0))) ∧ Below w.heap.size w w' := by
 have hu := Try.underlying43
 have hu2 := Try.underlying68
 have HB := ak_ (Below.refl w.heap.size w)
 have hn : (ws.length : Int) ≤ 9223372036854775807 := by have := Kd.C_max hw; omega
 clear hw
 go_enter Try.func102, Try.ntmps102
 go_upto_region 1 with (first | ((with_reducible refine gate_dst (N := 2) rfl ?_); refine bx_ 2 #[.slice Aw ws.length cw, .slice Ar rs.length cr, .int .i64 most] 43 ?_; intro gb2 hg w2 hbox hb; have nb_ := ak_ (bs_ (bb_ HB.out) hb); have nc_ := ak_ hbox; have nd_ := ak_ ((by rw [hg]; exact (bz_ (bb_ HB.out)) : w.heap.size ≤ gb2)); clear HB hb hbox hg; have HB := nb_; have BK2 := nc_; have GE2 := nd_; clear nb_ nc_ nd_; have hz2_0 := (blk_cell BK2.out 0); have hf2_0 := (blk_frozen BK2.out 0); simp at hz2_0; have hz2_1 := (blk_cell BK2.out 1); have hf2_1 := (blk_frozen BK2.out 1); simp at hz2_1; have hz2_2 := (blk_cell BK2.out 2); have hf2_2 := (blk_frozen BK2.out 2); simp at hz2_2; skip) | ((with_reducible refine gate_dst (N := 3) rfl ?_); refine bx_ 3 #[.bool false] 4 ?_; intro gb3 hg w3 hbox hb; have n0_ := ak_ (blk_below (pk BK2.out) hb); have m0_ := ak_ ((by rw [hg]; exact Nat.ne_of_lt (blk_lt (pk BK2.out)) : gb2 ≠ gb3)); have nb_ := ak_ (bs_ (bb_ HB.out) hb); have nc_ := ak_ hbox; have nd_ := ak_ ((by rw [hg]; exact (bz_ (bb_ HB.out)) : w.heap.size ≤ gb3)); clear HB hb hbox hg; clear BK2; have BK2 := n0_; have NE2_3 := m0_; have HB := nb_; have BK3 := nc_; have GE3 := nd_; clear nb_ nc_ nd_ n0_ m0_; have hz3_0 := (blk_cell BK3.out 0); have hf3_0 := (blk_frozen BK3.out 0); simp at hz3_0; skip) | ((with_reducible refine gate_dst (N := 4) rfl ?_); refine bx_ 4 #[.int .i64 0, .nilFunc] 68 ?_; intro gb4 hg w4 hbox hb; have n0_ := ak_ (blk_below (pk BK2.out) hb); have m0_ := ak_ ((by rw [hg]; exact Nat.ne_of_lt (blk_lt (pk BK2.out)) : gb2 ≠ gb4)); have n1_ := ak_ (blk_below (pk BK3.out) hb); have m1_ := ak_ ((by rw [hg]; exact Nat.ne_of_lt (blk_lt (pk BK3.out)) : gb3 ≠ gb4)); have nb_ := ak_ (bs_ (bb_ HB.out) hb); have nc_ := ak_ hbox; have nd_ := ak_ ((by rw [hg]; exact (bz_ (bb_ HB.out)) : w.heap.size ≤ gb4)); clear HB hb hbox hg; clear BK2 BK3; have BK2 := n0_; have NE2_4 := m0_; have BK3 := n1_; have NE3_4 := m1_; have HB := nb_; have BK4 := nc_; have GE4 := nd_; clear nb_ nc_ nd_ n0_ m0_ n1_ m1_; have hz4_0 := (blk_cell BK4.out 0); have hf4_0 := (blk_frozen BK4.out 0); simp at hz4_0; have hz4_1 := (blk_cell BK4.out 1); have hf4_1 := (blk_frozen BK4.out 1); simp at hz4_1; skip))
 have hq0 := blk_cell BK2.out 0
 simp at hq0
 go_upto_region 2 with (first | ((with_reducible refine gate_dst (N := 5) rfl ?_); refine bx_ 5 #[.int .i64 0] 3 ?_; intro gb5 hg w5 hbox hb; have n0_ := ak_ (blk_below (pk BK2.out) hb); have m0_ := ak_ ((by rw [hg]; exact Nat.ne_of_lt (blk_lt (pk BK2.out)) : gb2 ≠ gb5)); have n1_ := ak_ (blk_below (pk BK3.out) hb); have m1_ := ak_ ((by rw [hg]; exact Nat.ne_of_lt (blk_lt (pk BK3.out)) : gb3 ≠ gb5)); have n2_ := ak_ (blk_below (pk BK4.out) hb); have m2_ := ak_ ((by rw [hg]; exact Nat.ne_of_lt (blk_lt (pk BK4.out)) : gb4 ≠ gb5)); have nb_ := ak_ (bs_ (bb_ HB.out) hb); have nc_ := ak_ hbox; have nd_ := ak_ ((by rw [hg]; exact (bz_ (bb_ HB.out)) : w.heap.size ≤ gb5)); clear HB hb hbox hg; clear BK2 BK3 BK4; have BK2 := n0_; have NE2_5 := m0_; have BK3 := n1_; have NE3_5 := m1_; have BK4 := n2_; have NE4_5 := m2_; have HB := nb_; have BK5 := nc_; have GE5 := nd_; clear nb_ nc_ nd_ n0_ m0_ n1_ m1_ n2_ m2_; have hz5_0 := (blk_cell BK5.out 0); have hf5_0 := (blk_frozen BK5.out 0); simp at hz5_0; have hq0 := blk_cell BK2.out 0; simp at hq0; skip))
 have n0_ := ak_ (blk_far (p := ⟨gb5, 0, none⟩) BK2.out NE2_5.out (.int .i64 (ws.length : Int)))
 have n1_ := ak_ (blk_far (p := ⟨gb5, 0, none⟩) BK3.out NE3_5.out (.int .i64 (ws.length : Int)))
 have n2_ := ak_ (blk_far (p := ⟨gb5, 0, none⟩) BK4.out NE4_5.out (.int .i64 (ws.length : Int)))
 have n3_ := ak_ (blk_put (cs' := #[.int .i64 (ws.length : Int)]) BK5.out 0 (.int .i64 (ws.length : Int)) rfl)
 have n4_ := ak_ (below_set (v := (.int .i64 (ws.length : Int))) (j := 0) HB.out GE5.out)
 clear BK2 BK3 BK4 BK5 HB hz5_0 hf5_0 hz2_0 hz2_1 hz2_2 hf2_0 hf2_1 hf2_2 hz3_0 hf3_0 hz4_0 hz4_1 hf4_0 hf4_1 hq0
 generalize w5.setCell ⟨gb5, 0, none⟩ (.int .i64 (ws.length : Int)) = w6 at n0_ n1_ n2_ n3_ n4_ ⊢
 have BK2 := n0_; have BK3 := n1_; have BK4 := n2_; have BK5 := n3_; have HB := n4_
 clear n0_ n1_ n2_ n3_ n4_
 have hz5 := blk_cell BK5.out 0
 have hz40 := blk_cell BK4.out 0
 have hz41 := blk_cell BK4.out 1
 have hf40 := blk_frozen BK4.out 0
 have hf41 := blk_frozen BK4.out 1
 simp at hz5
 simp at hz40
 simp at hz41
 have B41 := blk_put (cs' := #[.int .i64 (wrap64 (2 * 2 ^ min ws.length 64)), .func (.func 138) #[] #[.pointer (some ⟨gb5, 0, none⟩), .pointer (some ⟨gb2, 0, none⟩), .pointer (some ⟨gb3, 0, none⟩)]]) (blk_put (cs' := #[.int .i64 (wrap64 (2 * 2 ^ min ws.length 64)), .nilFunc]) BK4.out 0 (.int .i64 (wrap64 (2 * 2 ^ min ws.length 64))) rfl) 1 (.func (.func 138) #[] #[.pointer (some ⟨gb5, 0, none⟩), .pointer (some ⟨gb2, 0, none⟩), .pointer (some ⟨gb3, 0, none⟩)]) rfl
 have B21 := blk_far (p := ⟨gb4, 1, none⟩) (blk_far (p := ⟨gb4, 0, none⟩) BK2.out NE2_4.out (.int .i64 (wrap64 (2 * 2 ^ min ws.length 64)))) NE2_4.out (.func (.func 138) #[] #[.pointer (some ⟨gb5, 0, none⟩), .pointer (some ⟨gb2, 0, none⟩), .pointer (some ⟨gb3, 0, none⟩)])
 have B31 := blk_far (p := ⟨gb4, 1, none⟩) (blk_far (p := ⟨gb4, 0, none⟩) BK3.out NE3_4.out (.int .i64 (wrap64 (2 * 2 ^ min ws.length 64)))) NE3_4.out (.func (.func 138) #[] #[.pointer (some ⟨gb5, 0, none⟩), .pointer (some ⟨gb2, 0, none⟩), .pointer (some ⟨gb3, 0, none⟩)])
 have B51 := blk_far (p := ⟨gb4, 1, none⟩) (blk_far (p := ⟨gb4, 0, none⟩) BK5.out NE4_5.out.symm (.int .i64 (wrap64 (2 * 2 ^ min ws.length 64)))) NE4_5.out.symm (.func (.func 138) #[] #[.pointer (some ⟨gb5, 0, none⟩), .pointer (some ⟨gb2, 0, none⟩), .pointer (some ⟨gb3, 0, none⟩)])
 have HB1 := below_set (v := (.func (.func 138) #[] #[.pointer (some ⟨gb5, 0, none⟩), .pointer (some ⟨gb2, 0, none⟩), .pointer (some ⟨gb3, 0, none⟩)])) (j := 1) (below_set (v := (.int .i64 (wrap64 (2 * 2 ^ min ws.length 64)))) (j := 0) HB.out GE4.out) GE4.out
 have HF := ak_ (And.intro B41 (And.intro B21 (And.intro B31 (And.intro B51 HB1))))
 clear B41 B21 B31 B51 HB1
 go_wp2
 refine bodyPost_ret (results_cell_row rfl _ _ gb4 68 #[.int .i64 (wrap64 (2 * 2 ^ min ws.length 64)), .func (.func 138) #[] #[.pointer (some ⟨gb5, 0, none⟩), .pointer (some ⟨gb2, 0, none⟩), .pointer (some ⟨gb3, 0, none⟩)]] (0, 0) _ rfl HF.out.1 Try.underlying68 rfl (by kernel_rfl)) rfl ?_
 exact ⟨gb5, gb2, gb3, rfl, ⟨HF.out.2.2.2.1, HF.out.2.1, HF.out.2.2.1⟩, HF.out.2.2.2.2⟩
theorem GOut.up {fo : Nat} {cb : Array Value} {N : Int} {E : Int → List S110} {w w0 : World} (h : GOut fo cb N E w) (hb : Below w.heap.size w w0) : GOut fo cb N E w0 := fun W s hW => h W s (below_then hb hb.size hW)
theorem frRun_congr {E E' : Int → List S110} {N : Int} (h : ∀ s, 0 ≤ s → s < N → E s = E' s) : ∀ k d i dist w, frRun E N k d i dist w = frRun E' N k d i dist w
 | 0, _, _, _, _ => rfl
 | k + 1, d, i, dist, w => by
  rw [frRun.eq_2, frRun.eq_2]
  by_cases hs : 0 ≤ rdOf 0 (w.getD d []) (i : Int) ∧ rdOf 0 (w.getD d []) (i : Int) < N
  ·rw [h _ hs.1 hs.2]
   simp only [frRun_congr h k]
  ·have e1 : ¬ (0 ≤ rdOf 0 (w.getD d []) (i : Int) ∧ rdOf 0 (w.getD d []) (i : Int) < N ∧ i < 1000000 ∧ d < 1000000 ∧ (E (rdOf 0 (w.getD d []) (i : Int))).length < 1000000) := fun hc => hs ⟨hc.1, hc.2.1⟩
   have e2 : ¬ (0 ≤ rdOf 0 (w.getD d []) (i : Int) ∧ rdOf 0 (w.getD d []) (i : Int) < N ∧ i < 1000000 ∧ d < 1000000 ∧ (E' (rdOf 0 (w.getD d []) (i : Int))).length < 1000000) := fun hc => hs ⟨hc.1, hc.2.1⟩
   simp only [if_neg e1, if_neg e2, frRun_congr h k]
def grE (g : Int → Option (List S110)) : Int → List S110 := fun s => (g s).getD []
def grAll (g : Int → Option (List S110)) (N : Int) : Bool := (List.range N.toNat).all fun i => (g (i : Int)).isSome
theorem grAll_at {g : Int → Option (List S110)} {N : Int} (h : grAll g N = true) (s : Int) (s0 : 0 ≤ s) (s1 : s < N) : g s = some (grE g s) := by
 have h2 := List.all_eq_true.1 h s.toNat (List.mem_range.2 (by omega))
 rw [Int.toNat_of_nonneg s0] at h2
 unfold grE
 cases hg : g s with
 | none => rw [hg] at h2; exact absurd h2 (by simp)
 | some r => rfl
theorem grAll_le {g g' : Int → Option (List S110)} {N : Int} (hg : ∀ s, LeO (g s) (g' s)) (h : grAll g N = true) : grAll g' N = true ∧ ∀ s, 0 ≤ s → s < N → grE g s = grE g' s := by
 have h2 : ∀ s, 0 ≤ s → s < N → g' s = some (grE g s) := fun s s0 s1 => hg s _ (grAll_at h s s0 s1)
 refine ⟨List.all_eq_true.2 (fun i hi => ?_), fun s s0 s1 => ?_⟩
 ·rw [h2 i (by omega) (by rw [List.mem_range] at hi; omega)]; rfl
 ·show grE g s = (g' s).getD []
  rw [h2 s s0 s1]; rfl
def frG (g : Int → Option (List S110)) (k : Nat) (N : Int) (starts : List Int) : Option (List Int) := if grAll g N = true then impl_graph_int_from.f (grE g) k N starts else none
theorem GOut.of {fo : Nat} {cb : Array Value} {N : Int} {g : Int → Option (List S110)} {w0 : World} (ha : grAll g N = true)
  (h : ∀ (W : World) (s : Int) (es : List S110), Below w0.heap.size w0 W → g s = some es → Calls Try.prog fo (#[.int .i64 s] ++ cb) W fun e w' => ∃ v : Value, e = .returned v ∧ Kd.S k110 110 w' W.heap.size (fun _ => True) v es ∧ Below W.heap.size W w') : GOut fo cb N (grE g) w0 :=
 fun W s hW s0 s1 => h W s _ hW (grAll_at ha s s0 s1)
def foRun (E : Int → List S110) (N : Int) (dist : List Int) : Nat → Int → List (List Int) → Option (List (List Int))
 | 0, _, _ => none
 | k + 1, s, acc => if 0 ≤ s ∧ s < (dist.length : Int) then (if rdOf 0 dist s > 0 then (impl_graph_int_best.f E N s dist).bind fun es => es.head?.bind fun e => if acc.length < 1000000 then foRun E N dist k e.f0 (acc ++ [e.f2]) else none else some acc) else none
theorem foRun_congr {E E' : Int → List S110} {N : Int} (h : ∀ s, 0 ≤ s → s < N → E s = E' s) (dist : List Int) : ∀ k s acc, foRun E N dist k s acc = foRun E' N dist k s acc
 | 0, _, _ => rfl
 | k + 1, s, acc => by
  have e : impl_graph_int_best.f E N s dist = impl_graph_int_best.f E' N s dist := by
   unfold impl_graph_int_best.f
   by_cases hs : 0 ≤ s ∧ s < N
   ·rw [h s hs.1 hs.2]
   ·rw [if_neg (fun hc => hs ⟨hc.1, hc.2.1⟩), if_neg (fun hc => hs ⟨hc.1, hc.2.1⟩)]
  rw [foRun.eq_2, foRun.eq_2, e]
  simp only [foRun_congr h dist k]
def impl_graph_int_first.f (E : Int → List S110) (k : Nat) (N : Int) (s : Int) (dist : List Int) : Option (List (List Int)) := foRun E N dist k s []
def impl_graph_int_first.T4 : Bool × List (List Nat × List Nat) := (true, [([], []), ([], []), ([1], [1]), ([2], [2]), ([0, 3], [0, 3]), ([], []), ([5], [5]), ([4, 4, 0, 1, 2, 3, 4], [0, 4]), ([6, 7, 0, 1, 2, 3, 4, 5, 6, 7], [6])])
def impl_graph_int_first.B4 : List Nat := [0, 0, 2, 6, 15, 0, 32, 31, 255]
theorem impl_graph_int_first.T4_ : rtab .any (opsOf Try.f76 4) = impl_graph_int_first.T4 := by kernel_rfl
theorem impl_graph_int_first.B4_ : waitsOk impl_graph_int_first.T4.2 impl_graph_int_first.B4 = true := by kernel_rfl
theorem impl_graph_int_first.calls (fo : Nat) (cb : Array Value) (N : Int) (E : Int → List S110) (w w0 : World) (ee : ∀ args w, (callFunc fo args).run Try.prog w = .ok (.enter fo args) w) (hE : GOut fo cb N E w) (hb0 : Below w.heap.size w w0)
  (k : Nat) (s : Int) (Ad : Option Addr) (cd : Nat) (dist : List Int) (r : List (List Int)) (hd : (Kd.int .i64).C w0 Ad dist.length dist) (h : impl_graph_int_first.f E k N s dist = some r) :
  Calls Try.prog 76 #[.agg #[.int .i64 N, .func (.func fo) #[] cb], .int .i64 s, .slice Ad dist.length cd] w0 fun e w' => ∃ v0_ : Value, e = .returned v0_ ∧ Kd.S (Kd.slice 3 (Kd.int .i64)) 29 w' w0.heap.size (fun _ => True) v0_ r ∧ Below w0.heap.size w0 w' := by
 have hu := Try.underlying68
 have hu2 := Try.underlying110
 unfold impl_graph_int_first.f at h
 have HE := ak_ (hE.up hb0)
 have HD := ak_ hd
 have H := ak_ h
 have HB := ak_ (Below.refl w0.heap.size w0)
 clear h hE hb0 hd
 go_enter Try.func76, Try.ntmps76
 go_wp2_with (first | ((with_reducible refine gate_dst (N := 3) rfl ?_); refine box_event ?hg (N := 3) ?hd (cs := #[.int .i64 N, .func (.func fo) #[] cb]) (t := 68) ?hr ?_; (case hd => rfl); (case hg => rfl); (case hr => go_simp <;> rfl); intro gb3 hg w3 hbox hb; have nb_ := ak_ (bs_ (bb_ HB.out) hb); have nc_ := ak_ hbox; have nd_ := ak_ ((by rw [hg]; exact (bz_ (bb_ HB.out)) : w0.heap.size ≤ gb3)); clear HB hb hbox hg; have HB := nb_; have BK3 := nc_; have GE3 := nd_; clear nb_ nc_ nd_; have hz3_0 := (blk_cell BK3.out 0); have hf3_0 := (blk_frozen BK3.out 0); simp at hz3_0; have hz3_1 := (blk_cell BK3.out 1); have hf3_1 := (blk_frozen BK3.out 1); simp at hz3_1; skip))
 go_loopg [1, 7] k (fun gg v1 v7 wr => ∃ (s : Int) (acc : List (List Int)) (A : Option Addr) (c : Nat), v1 = .int .i64 s ∧ v7 = .slice A acc.length c ∧ Aside0 (foRun E N dist gg s acc = some r) ∧ Aside0 (Kd.S (Kd.slice 3 (Kd.int .i64)) 29 wr w0.heap.size (fun _ => True) (.slice A acc.length c) acc) ∧ Aside0 (wr.heap[gb3]? = some (.cells #[.int .i64 N, .func (.func fo) #[] cb] 68 (0, 0))) ∧ Aside0 (Below w0.heap.size w0 wr))
 case atStart => exact ⟨s, [], some ⟨w3.heap.size, 0, none⟩, 0, rfl, rfl, H, ⟨gp_lit0 _ _ w3 (bz_ HB.out)⟩, ⟨ka_ (pk BK3.out) _⟩, ⟨(bb_ HB.out)⟩⟩
 case round =>
  clear H BK3 HB
  obtain ⟨s, acc, A, c, rfl, rfl, H, HO, BK3, HB⟩ := hrel
  cases gk with
  | zero => exact absurd H.out (by simp [foRun])
  | succ m =>
   have h := H.out
   simp only [foRun] at h
   by_cases hs : 0 ≤ s ∧ s < (dist.length : Int)
   rotate_left
   ·rw [if_neg hs] at h; exact absurd h (by simp)
   rw [if_pos hs] at h
   have hD := HD.out
   obtain ⟨ad, rfl, hx0⟩ := Kd.at_int hD s hs.1 hs.2
   have hx := pw_cell_below HB.out hx0
   have e0 : rd dist s = rdOf 0 dist s := rfl
   rw [e0] at hx
   have p0 := eq_true hs.1
   have p1 := eq_true hs.2
   clear hx0 e0 hD hs
   by_cases hv : rdOf 0 dist s > 0
   ·have v1 : decide (rdOf 0 dist s > 0) = true := decide_eq_true hv
    have v2 : decide (0 < rdOf 0 dist s) = true := decide_eq_true hv
    rw [if_pos hv] at h
    obtain ⟨es, h1, h⟩ := Option.bind_eq_some_iff.mp h
    obtain ⟨e, h2, h⟩ := Option.bind_eq_some_iff.mp h
    by_cases hac : acc.length < 1000000
    rotate_left
    ·rw [if_neg hac] at h; exact absurd h (by simp)
    rw [if_pos hac] at h
    have h3 : es[0]? = some e := by rw [← List.head?_eq_getElem?]; exact h2
    have hl0 : 0 < es.length := (List.getElem?_eq_some_iff.1 h3).1
    have HBEST := ak_ fun (W' : World) (hb : Below w0.heap.size w0 W') => impl_graph_int_best.calls fo cb N E w0 W' ee HE.out hb s (some ad) cd dist es (Kd.C_below HD.out hb) h1
    have HL0 := ak_ hl0
    have HGE := ak_ (show es.getD (0 : Int).toNat z110 = e from by rw [List.getD_eq_getElem?_getD, show (0 : Int).toNat = 0 from rfl, h3]; rfl)
    have q1 : ((0 : Int) < (es.length : Int)) = True := eq_true (by omega)
    have q1n : (0 < es.length) = True := eq_true hl0
    have q1d : decide ((0 : Int) < (es.length : Int)) = true := decide_eq_true (by omega)
    have H2 := ak_ h
    have HAC := ak_ hac
    have hz3_0 := blk_cell BK3.out 0
    have hz3_1 := blk_cell BK3.out 1
    simp at hz3_0
    simp at hz3_1
    clear h h1 h2 h3 hac hv H hl0
    go_upto_region 4 with (first | (go_at_call 111; refine (HBEST.out _ HB.out).mono ?_; rintro e_ w18 ⟨v18, rfl, ho, hb⟩; obtain ⟨ge, ce, rfl, -, -, -⟩ := Kd.S_form ho HL0.out; obtain ⟨oki, cc, -, hM, hcell, -, -, -⟩ := Kd.S_elem ho z110 0 (Int.le_refl _) (by have := HL0.out; omega); rw [HGE.out] at hM; obtain ⟨v2_, hc_, hR⟩ := k110_openM hM; obtain ⟨A2, c2, rfl⟩ := Kd.R_slice hR; have he0 : w18.cell? ⟨ge, 0, none⟩ = some (.int .i64 e.f0) := hcell 0 _ (by rw [hc_]; rfl); have he1 : w18.cell? ⟨ge, 1, none⟩ = some (.int .i64 e.f1) := hcell 1 _ (by rw [hc_]; rfl); have he2 : w18.cell? ⟨ge, 2, none⟩ = some (.slice A2 e.f2.length c2) := hcell 2 _ (by rw [hc_]; rfl); have RL := ak_ (Kd.R_lower hR (bz_ HB.out)); have hO18 := Kd.S_below (Kd.S_mono (ok' := fun k_ => True ∧ ¬ some k_ = (Value.slice A2 e.f2.length c2).ownBlock) (Kd.S_bound HO.out) (fun k_ hk_ => ⟨trivial, fun e_ => by have h1_ := Kd.R_base hR k_ e_.symm; have := hk_.2.2.1; omega⟩)) hb; have HNE := ak_ (show ∀ k_, some k_ = (Value.slice A2 e.f2.length c2).ownBlock → some k_ ≠ (Value.slice A acc.length c).ownBlock from fun k_ h1_ h2_ => by obtain ⟨f_, hR_⟩ := hO18; exact (hR_.1 k_ h2_.symm).2 h1_); clear HO; have HO := ak_ hO18; have n0_ := ak_ (blk_below (pk BK3.out) hb); have n1_ := ak_ (below_then HB.out HB.out.size hb); clear BK3 HB hb ho hcell hc_ hR hM hO18 hz3_0 hz3_1; have BK3 := n0_; have HB := n1_; clear n0_ n1_))
    obtain ⟨w17, hw17⟩ : ∃ W, W = w18.alloc (.cells #[.int .i64 e.f0, .int .i64 e.f1, .slice A2 e.f2.length c2] 110) := ⟨_, rfl⟩
    have hb : Below w18.heap.size w18 w17 := (by rw [hw17]; exact ba_ (Below.refl _ _) _)
    have hbk : w17.heap[w18.heap.size]? = some (.cells #[.int .i64 e.f0, .int .i64 e.f1, .slice A2 e.f2.length c2] 110 (0, 0)) := (by rw [hw17]; exact blk_new w18 _)
    rw [← hw17]
    clear hw17 he0 he1 he2
    have n0_ := ak_ (blk_below BK3.out hb); have n1_ := ak_ (Kd.S_below HO.out hb); have n2_ := ak_ (Kd.R_below RL.out hb); have n3_ := ak_ (below_then HB.out HB.out.size hb); clear BK3 HO RL HB hb; have BK3 := n0_; have HO := n1_; have RL := n2_; have HB := n3_; clear n0_ n1_ n2_ n3_
    obtain ⟨gb8, hg8⟩ : ∃ g, g = w18.heap.size := ⟨_, rfl⟩
    rw [← hg8] at hbk ⊢
    have BK8 := ak_ hbk
    clear hbk hg8
    have n0_ := ak_ (k1_ BK3.out); have n1_ := ak_ (k1_ BK8.out); have n2_ := ak_ (Kd.S_drew HO.out); have n3_ := ak_ (Kd.R_drew RL.out); have n4_ := ak_ (b1_ HB.out); clear BK3 BK8 HO RL HB; have BK3 := n0_; have BK8 := n1_; have HO := n2_; have RL := n3_; have HB := n4_; clear n0_ n1_ n2_ n3_ n4_
    refine start_ (n := 9) (S := fun w' => w'.cell? ⟨gb8, 0, none⟩ = some (.int .i64 e.f0) ∧ w'.cell? ⟨gb8, 2, none⟩ = some (.slice A2 e.f2.length c2)) (ds := []) (mb_ 9 0) (by kernel_rfl) rfl rfl ⟨(blk_cell BK8.out 0).trans rfl, (blk_cell BK8.out 2).trans rfl⟩ (fun hHeld => ?_); refine with_tabW impl_graph_int_first.T4_ impl_graph_int_first.B4_ (fun HT_ HW_ => ?_)
    generalize w17.drew = w9 at BK3 BK8 HO RL HB hHeld ⊢
    refine pu_ 0 21 9 1 ?_
    refine pu_ 1 22 9 3 ?_
    refine tk_ 2 23 9 7 ?_ (hy := by rintro w' ⟨s0, s1⟩; go_simp; with_reducible rfl)
    refine pu_ 5 26 9 39 ?_
    refine tk_ 6 27 9 103 ?_ (hy := by rintro w' ⟨s0, s1⟩; go_simp; with_reducible rfl)
    refine on_ 3 24 9 111 (fun K hK => ?_)
    refine value_ (w1 := ?_) (v := ?_) (by rfl) rfl ?_ ?_
    rotate_left 2
    ·go_simp
     constructor
     ·rfl
     ·rfl
    refine hK.out _ _ ⟨(blk_cell (ka_ BK8.out _) 0).trans rfl, (blk_cell (ka_ BK8.out _) 2).trans rfl⟩ (fun hHeld => ?_)
    clear hK K
    refine nm_ ?_
    refine on_ 4 25 9 127 (fun K hK => ?_)
    refine Kd.S_append_step (Kd.slice 3 (Kd.int .i64)) (w0 := w0) w0.heap.size (by rfl) (.tmp 21) (.tmp 24) 47 29 (.slice none 0 0) 24 rfl Try.underlying47 info29 rfl (by decide) (by omega) (.slice A acc.length c) acc e.f2 [.slice A2 e.f2.length c2] (fun _ => True) (fun k_ => some k_ = (Value.slice A2 e.f2.length c2).ownBlock) rfl rfl ?aP ?aK (fun _ _ => trivial) ?aO ?aB ?aS ?aL ?_
    (case aP => exact ⟨_, rfl, Kd.R_tight rfl (Kd.pR RL.out)⟩)
    (case aK => exact fun k_ hk_ => ⟨trivial, HNE.out k_ hk_⟩)
    (case aO => exact Kd.pS HO.out)
    (case aB => exact HB.out)
    (case aS => exact bz_ HB.out)
    (case aL => have := HAC.out; omega)
    intro v9 w19 ho hb hg hat
    obtain ⟨Ao, co, rfl⟩ := Kd.S_slice ho
    have BX := ak_ (blk_grown (pk BK8.out) hg (Kd.S_ne HO.out BK8.out (by decide))); have B3 := ak_ (blk_grown (pk BK3.out) hg (Kd.S_ne HO.out BK3.out (by decide))); clear BK3 BK8 HO HB RL hg hat; have BK8 := BX; have BK3 := B3; have HO := ak_ ho; have HB := ak_ hb; clear BX B3 ho hb
    refine hK.out _ _ ⟨(blk_cell BK8.out 0).trans rfl, (blk_cell BK8.out 2).trans rfl⟩ (fun hHeld => ?_)
    clear hK K
    refine nm_ ?_
    refine pu_ 7 7 9 255 ?_
    refine pu_ 8 1 9 511 ?_
    refine done_ (done_of HT_.out (by kernel_rfl)) ?_
    try go_wp2
    go_roundg m
    case measure => omega
    case rel => exact ⟨e.f0, acc ++ [e.f2], Ao, co, rfl, (by rw [List.length_append]; rfl), H2, ⟨Kd.pS HO.out⟩, ⟨pk BK3.out⟩, ⟨(bb_ HB.out)⟩⟩
   ·have v1 : decide (rdOf 0 dist s > 0) = false := decide_eq_false hv
    have v2 : decide (0 < rdOf 0 dist s) = false := decide_eq_false hv
    rw [if_neg hv] at h
    obtain rfl := Option.some.inj h
    clear h hv H
    go_wp2
    first | go_ret | go_ret2
    exact ⟨_, rfl, Kd.S_below HO.out be_, (bb_ HB.out)⟩
def fiG (g : Int → Option (List S110)) (k : Nat) (N : Int) (s : Int) (dist : List Int) : Option (List (List Int)) := if grAll g N = true then impl_graph_int_first.f (grE g) k N s dist else none
attribute [local go_sem] run_store_fn_
theorem gr_typ {W : World} {a b t u : Nat} {cs ds : Array Value} (h : W.heap[a]? = some (.cells cs t (0, 0))) (h2 : W.heap[b]? = some (.cells ds u (0, 0))) (ht : t ≠ u) : a ≠ b := by
 rintro rfl
 rw [h] at h2
 injection h2 with h2
 injection h2 with _ h2
 exact ht h2
def impl_Crew_costs.f (k : Nat) (ws : List Int) (rs : List Bool) (most : Int) : Option (List Int × Bool) := (impl_last.f (ws.length : Int)).bind fun q => (frG (crewG k ws rs most) k (grN ws.length) [q]).bind fun dist => if 0 < dist.length then some (dist, decide (0 ≤ rdOf 0 dist 0)) else none
def impl_Crew_costs.T2 : Bool × List (List Nat × List Nat) := (true, [([], []), ([], []), ([1], [1]), ([2], [2]), ([3], [3]), ([4], [4]), ([0, 5, 4], [0, 5]), ([6, 6, 0, 1, 2, 3, 4, 5, 6], [6])])
def impl_Crew_costs.B2 : List Nat := [0, 0, 2, 6, 14, 30, 63, 127]
theorem impl_Crew_costs.T2_ : rtab .any (opsOf Try.f58 2) = impl_Crew_costs.T2 := by kernel_rfl
theorem impl_Crew_costs.B2_ : waitsOk impl_Crew_costs.T2.2 impl_Crew_costs.B2 = true := by kernel_rfl
def impl_Crew_costs.T3 : Bool × List (List Nat × List Nat) := (true, [([], []), ([], []), ([], []), ([2], [2]), ([3], [3]), ([4], [4]), ([0, 0], [0]), ([1, 6, 0, 1, 6], [1]), ([5, 7, 0, 1, 2, 3, 4, 5, 6, 7], [5])])
def impl_Crew_costs.B3 : List Nat := [0, 0, 0, 4, 12, 28, 1, 67, 255]
theorem impl_Crew_costs.T3_ : rtab .any (opsOf Try.f58 3) = impl_Crew_costs.T3 := by kernel_rfl
theorem impl_Crew_costs.B3_ : waitsOk impl_Crew_costs.T3.2 impl_Crew_costs.B3 = true := by kernel_rfl
theorem impl_Crew_costs.calls (k : Nat) (Aw : Option Addr) (cw : Nat) (ws : List Int) (Ar : Option Addr) (cr : Nat) (rs : List Bool) (most : Int) (dist : List Int) (b : Bool) (w : World) (hw : Kd.C (Kd.int .i64) w Aw ws.length ws) (hcw : ws.length ≤ cw) (hr : Kd.C Kd.bool w Ar rs.length rs) (hcr : rs.length ≤ cr) (h : impl_Crew_costs.f k ws rs most = some (dist, b)) :
  Calls Try.prog 58 #[.agg #[.slice Aw ws.length cw, .slice Ar rs.length cr, .int .i64 most], .bool false] w fun e w' => ∃ (fo : Nat) (cb : Array Value) (gd cd : Nat), e = .returned (.tuple #[.agg #[.int .i64 (grN ws.length), .func (.func fo) #[] cb], .slice (some ⟨gd, 0, none⟩) dist.length cd, .bool b]) ∧
   (∀ args w, (callFunc fo args).run Try.prog w = .ok (.enter fo args) w) ∧ grAll (crewG k ws rs most) (grN ws.length) = true ∧ GOut fo cb (grN ws.length) (grE (crewG k ws rs most)) w' ∧ Kd.R (Kd.int .i64) 3 w' w.heap.size (fun _ => True) (.slice (some ⟨gd, 0, none⟩) dist.length cd) dist ∧ Below w.heap.size w w' := by
 have hu := Try.underlying43
 have hu2 := Try.underlying68
 unfold impl_Crew_costs.f at h
 obtain ⟨q, h1, h⟩ := Option.bind_eq_some_iff.mp h
 obtain ⟨dist', h2, h⟩ := Option.bind_eq_some_iff.mp h
 by_cases hd : 0 < dist'.length
 rotate_left
 ·rw [if_neg hd] at h; exact absurd h (by simp)
 rw [if_pos hd] at h
 obtain ⟨rfl, rfl⟩ : dist' = dist ∧ decide (0 ≤ rdOf 0 dist' 0) = b := by simpa using h
 unfold frG at h2
 by_cases ha : grAll (crewG k ws rs most) (grN ws.length) = true
 rotate_left
 ·rw [if_neg ha] at h2; exact absurd h2 (by simp)
 rw [if_pos ha] at h2
 have A1 := ak_ fun (W : World) (hb : Below w.heap.size w W) => impl_Crew_graph.calls Aw cw ws Ar cr rs most W (Kd.C_below hw hb)
 have A2 := ak_ fun (W : World) => impl_last.calls (ws.length : Int) q W h1
 have HE := ak_ fun (W : World) (hb : Below w.heap.size w W) (Bn Bc Bl : Nat) (hB : W.heap[Bn]? = some (.cells #[.int .i64 (ws.length : Int)] 3 (0, 0)) ∧ W.heap[Bc]? = some (.cells #[.slice Aw ws.length cw, .slice Ar rs.length cr, .int .i64 most] 43 (0, 0)) ∧ W.heap[Bl]? = some (.cells #[.bool false] 4 (0, 0))) => (GOut.of ha (fun W' s es hW' hs => impl_Crew_graph.calls_1 k Bn Bc Bl Aw cw ws Ar cr rs most s es W' (blk_below hB.1 hW') (blk_below hB.2.1 hW') (blk_below hB.2.2 hW') (Kd.C_below hw (bs_ hb hW')) hcw (Kd.C_below hr (bs_ hb hW')) hcr hs) : GOut 138 #[.pointer (some ⟨Bn, 0, none⟩), .pointer (some ⟨Bc, 0, none⟩), .pointer (some ⟨Bl, 0, none⟩)] (grN ws.length) (grE (crewG k ws rs most)) W)
 have A3 := ak_ fun (W W0 : World) (cb : Array Value) (hE : GOut 138 cb (grN ws.length) (grE (crewG k ws rs most)) W) (bs cs : Nat) (hb0 : Below W.heap.size W W0) (hs : Kd.R (Kd.int .i64) 3 W0 W.heap.size (fun _ => True) (.slice (some ⟨bs, 0, none⟩) [q].length cs) [q]) => impl_graph_int_from.calls 138 cb (grN ws.length) (grE (crewG k ws rs most)) W W0 (enters_of Try.func138 (by kernel_rfl) rfl) hE k [q] dist' bs cs hb0 hs h2
 have HA := ak_ ha
 have HD0 := ak_ hd
 have HB := ak_ (Below.refl w.heap.size w)
 have hc0 : (0 : Int) < (dist'.length : Int) := by omega
 have hcn : (0 < dist'.length) = True := eq_true hd
 clear h h1 h2 hd ha hw hcw hr hcr
 go_enter Try.func58, Try.ntmps58
 go_upto_region 1 with (first | ((with_reducible refine gate_dst (N := 2) rfl ?_); refine bx_ 2 #[.slice Aw ws.length cw, .slice Ar rs.length cr, .int .i64 most] 43 ?_; intro gb2 hg w2 hbox hb; have nb_ := ak_ (bs_ (bb_ HB.out) hb); have nc_ := ak_ hbox; have nd_ := ak_ ((by rw [hg]; exact (bz_ (bb_ HB.out)) : w.heap.size ≤ gb2)); clear HB hb hbox hg; have HB := nb_; have BK2 := nc_; have GE2 := nd_; clear nb_ nc_ nd_; have hz2_0 := (blk_cell BK2.out 0); have hf2_0 := (blk_frozen BK2.out 0); simp at hz2_0; have hz2_1 := (blk_cell BK2.out 1); have hf2_1 := (blk_frozen BK2.out 1); simp at hz2_1; have hz2_2 := (blk_cell BK2.out 2); have hf2_2 := (blk_frozen BK2.out 2); simp at hz2_2; skip) | ((with_reducible refine gate_dst (N := 4) rfl ?_); refine bx_ 4 #[.int .i64 0, .nilFunc] 68 ?_; intro gb4 hg w4 hbox hb; have n0_ := ak_ (blk_below (pk BK2.out) hb); have m0_ := ak_ ((by rw [hg]; exact Nat.ne_of_lt (blk_lt (pk BK2.out)) : gb2 ≠ gb4)); have nb_ := ak_ (bs_ (bb_ HB.out) hb); have nc_ := ak_ hbox; have nd_ := ak_ ((by rw [hg]; exact (bz_ (bb_ HB.out)) : w.heap.size ≤ gb4)); clear HB hb hbox hg; clear BK2; have BK2 := n0_; have NE2_4 := m0_; have HB := nb_; have BK4 := nc_; have GE4 := nd_; clear nb_ nc_ nd_ n0_ m0_; have hz4_0 := (blk_cell BK4.out 0); have hf4_0 := (blk_frozen BK4.out 0); simp at hz4_0; have hz4_1 := (blk_cell BK4.out 1); have hf4_1 := (blk_frozen BK4.out 1); simp at hz4_1; skip))
 have hq0 := blk_cell BK2.out 0
 have hq1 := blk_cell BK2.out 1
 have hq2 := blk_cell BK2.out 2
 simp at hq0
 simp at hq1
 simp at hq2
 go_upto_region 2 with (first | (go_at_call 102; refine (A1.out _ (bb_ HB.out)).mono ?_; rintro e w11 ⟨Bn, Bc, Bl, rfl, hB, hb⟩; have HK := ak_ hB; clear hB A1; have n0_ := ak_ (blk_below (pk BK2.out) hb); have n1_ := ak_ (blk_below (pk BK4.out) hb); have n2_ := ak_ (bs_ (bb_ HB.out) hb); clear BK2 BK4 HB hb; have BK2 := n0_; have BK4 := n1_; have HB := n2_; clear n0_ n1_ n2_) | ((with_reducible refine gate_dst (N := 7) rfl ?_); refine bx_ 7 #[.int .i64 0, .nilFunc] 68 ?_; intro gb7 hg w7 hbox hb; have n0_ := ak_ (blk_below (pk BK2.out) hb); have m0_ := ak_ ((by rw [hg]; exact Nat.ne_of_lt (blk_lt (pk BK2.out)) : gb2 ≠ gb7)); have n1_ := ak_ (blk_below (pk BK4.out) hb); have m1_ := ak_ ((by rw [hg]; exact Nat.ne_of_lt (blk_lt (pk BK4.out)) : gb4 ≠ gb7)); have nb_ := ak_ (bs_ (bb_ HB.out) hb); have nc_ := ak_ hbox; have nd_ := ak_ ((by rw [hg]; exact (bz_ (bb_ HB.out)) : w.heap.size ≤ gb7)); have nk_ := ak_ (show w7.heap[Bn]? = some (.cells #[.int .i64 (ws.length : Int)] 3 (0, 0)) ∧ w7.heap[Bc]? = some (.cells #[.slice Aw ws.length cw, .slice Ar rs.length cr, .int .i64 most] 43 (0, 0)) ∧ w7.heap[Bl]? = some (.cells #[.bool false] 4 (0, 0)) from And.intro (blk_below (pk HK.out.1) hb) (And.intro (blk_below (pk HK.out.2.1) hb) (blk_below (pk HK.out.2.2) hb))); clear HB hb hbox hg HK; have HK := nk_; clear nk_; clear BK2 BK4; have BK2 := n0_; have NE2_7 := m0_; have BK4 := n1_; have NE4_7 := m1_; have HB := nb_; have BK7 := nc_; have GE7 := nd_; clear nb_ nc_ nd_ n0_ m0_ n1_ m1_; have hz7_0 := (blk_cell BK7.out 0); have hf7_0 := (blk_frozen BK7.out 0); simp at hz7_0; have hz7_1 := (blk_cell BK7.out 1); have hf7_1 := (blk_frozen BK7.out 1); simp at hz7_1; skip))
 have B71 := ak_ (blk_put (cs' := #[.int .i64 (grN ws.length), .func (.func 138) #[] #[.pointer (some ⟨Bn, 0, none⟩), .pointer (some ⟨Bc, 0, none⟩), .pointer (some ⟨Bl, 0, none⟩)]]) (blk_put (cs' := #[.int .i64 (grN ws.length), .nilFunc]) BK7.out 0 (.int .i64 (grN ws.length)) rfl) 1 (.func (.func 138) #[] #[.pointer (some ⟨Bn, 0, none⟩), .pointer (some ⟨Bc, 0, none⟩), .pointer (some ⟨Bl, 0, none⟩)]) rfl)
 have B21 := ak_ (blk_far (p := ⟨gb7, 1, none⟩) (blk_far (p := ⟨gb7, 0, none⟩) BK2.out NE2_7.out (.int .i64 (grN ws.length))) NE2_7.out (.func (.func 138) #[] #[.pointer (some ⟨Bn, 0, none⟩), .pointer (some ⟨Bc, 0, none⟩), .pointer (some ⟨Bl, 0, none⟩)]))
 have B41 := ak_ (blk_far (p := ⟨gb7, 1, none⟩) (blk_far (p := ⟨gb7, 0, none⟩) BK4.out NE4_7.out (.int .i64 (grN ws.length))) NE4_7.out (.func (.func 138) #[] #[.pointer (some ⟨Bn, 0, none⟩), .pointer (some ⟨Bc, 0, none⟩), .pointer (some ⟨Bl, 0, none⟩)]))
 have K71 := ak_ (show ((w7.setCell ⟨gb7, 0, none⟩ (.int .i64 (grN ws.length))).setCell ⟨gb7, 1, none⟩ (.func (.func 138) #[] #[.pointer (some ⟨Bn, 0, none⟩), .pointer (some ⟨Bc, 0, none⟩), .pointer (some ⟨Bl, 0, none⟩)])).heap[Bn]? = some (.cells #[.int .i64 (ws.length : Int)] 3 (0, 0)) ∧ ((w7.setCell ⟨gb7, 0, none⟩ (.int .i64 (grN ws.length))).setCell ⟨gb7, 1, none⟩ (.func (.func 138) #[] #[.pointer (some ⟨Bn, 0, none⟩), .pointer (some ⟨Bc, 0, none⟩), .pointer (some ⟨Bl, 0, none⟩)])).heap[Bc]? = some (.cells #[.slice Aw ws.length cw, .slice Ar rs.length cr, .int .i64 most] 43 (0, 0)) ∧ ((w7.setCell ⟨gb7, 0, none⟩ (.int .i64 (grN ws.length))).setCell ⟨gb7, 1, none⟩ (.func (.func 138) #[] #[.pointer (some ⟨Bn, 0, none⟩), .pointer (some ⟨Bc, 0, none⟩), .pointer (some ⟨Bl, 0, none⟩)])).heap[Bl]? = some (.cells #[.bool false] 4 (0, 0)) from And.intro (blk_far (blk_far HK.out.1 (gr_typ HK.out.1 BK7.out (by decide)) (.int .i64 (grN ws.length))) (gr_typ HK.out.1 BK7.out (by decide)) (.func (.func 138) #[] #[.pointer (some ⟨Bn, 0, none⟩), .pointer (some ⟨Bc, 0, none⟩), .pointer (some ⟨Bl, 0, none⟩)])) (And.intro (blk_far (blk_far HK.out.2.1 (gr_typ HK.out.2.1 BK7.out (by decide)) (.int .i64 (grN ws.length))) (gr_typ HK.out.2.1 BK7.out (by decide)) (.func (.func 138) #[] #[.pointer (some ⟨Bn, 0, none⟩), .pointer (some ⟨Bc, 0, none⟩), .pointer (some ⟨Bl, 0, none⟩)])) (blk_far (blk_far HK.out.2.2 (gr_typ HK.out.2.2 BK7.out (by decide)) (.int .i64 (grN ws.length))) (gr_typ HK.out.2.2 BK7.out (by decide)) (.func (.func 138) #[] #[.pointer (some ⟨Bn, 0, none⟩), .pointer (some ⟨Bc, 0, none⟩), .pointer (some ⟨Bl, 0, none⟩)]))))
 have HB1 := ak_ (below_set (v := (.func (.func 138) #[] #[.pointer (some ⟨Bn, 0, none⟩), .pointer (some ⟨Bc, 0, none⟩), .pointer (some ⟨Bl, 0, none⟩)])) (j := 1) (below_set (v := (.int .i64 (grN ws.length))) (j := 0) HB.out GE7.out) GE7.out)
 generalize (w7.setCell ⟨gb7, 0, none⟩ (.int .i64 (grN ws.length))).setCell ⟨gb7, 1, none⟩ (.func (.func 138) #[] #[.pointer (some ⟨Bn, 0, none⟩), .pointer (some ⟨Bc, 0, none⟩), .pointer (some ⟨Bl, 0, none⟩)]) = w8 at B71 B21 B41 K71 HB1 ⊢
 clear BK2 BK4 BK7 HB HK
 have BK2 := B21; have BK4 := B41; have BK7 := B71; have HB := HB1; have HK := K71
 clear B21 B41 B71 HB1 K71
 have n0_ := ak_ (k1_ BK2.out); have n1_ := ak_ (k1_ BK4.out); have n2_ := ak_ (k1_ BK7.out); have n3_ := ak_ (And.intro (k1_ HK.out.1) (And.intro (k1_ HK.out.2.1) (k1_ HK.out.2.2))); have n4_ := ak_ (b1_ HB.out); clear BK2 BK4 BK7 HK HB; have BK2 := n0_; have BK4 := n1_; have BK7 := n2_; have HK := n3_; have HB := n4_; clear n0_ n1_ n2_ n3_ n4_
 refine start_ (n := 8) (S := fun w' => w'.cell? ⟨gb7, 0, none⟩ = some (.int .i64 (grN ws.length)) ∧ w'.cell? ⟨gb7, 1, none⟩ = some (.func (.func 138) #[] #[.pointer (some ⟨Bn, 0, none⟩), .pointer (some ⟨Bc, 0, none⟩), .pointer (some ⟨Bl, 0, none⟩)]) ∧ w'.cell? ⟨gb2, 0, none⟩ = some (.slice Aw ws.length cw)) (ds := []) (mb_ 8 0) (by kernel_rfl) rfl rfl ⟨(blk_cell BK7.out 0).trans rfl, (blk_cell BK7.out 1).trans rfl, (blk_cell BK2.out 0).trans rfl⟩ (fun hHeld => ?_); refine with_tabW impl_Crew_costs.T2_ impl_Crew_costs.B2_ (fun HT_ HW_ => ?_)
 generalize w8.drew = w9 at BK2 BK4 BK7 HK HB hHeld ⊢
 refine tk_ 0 12 8 1 ?_ (hy := by rintro w' ⟨s0, s1, s2⟩; go_simp; with_reducible rfl)
 refine pu_ 1 13 8 3 ?_
 refine tk_ 2 14 8 7 ?_ (hy := by rintro w' ⟨s0, s1, s2⟩; go_simp; with_reducible rfl)
 refine pu_ 3 15 8 15 ?_
 refine on_ 4 16 8 31 (fun K hK => ?_)
 refine goes_ Try.func85 (by kernel_rfl) rfl #[.int .i64 (ws.length : Int)] (by rfl) rfl rfl (by first | rfl | (simp only [map_toArray, map_cons, map_nil]; try rfl)) ?_
 refine (A2.out _).mono ?_
 rintro e_ w10 ⟨rfl, ⟨nd, rfl⟩⟩
 refine ⟨_, rfl, ?_⟩
 have n0_ := ak_ (kN_ BK2.out nd); have n1_ := ak_ (kN_ BK4.out nd); have n2_ := ak_ (kN_ BK7.out nd); have n3_ := ak_ (And.intro (kN_ HK.out.1 nd) (And.intro (kN_ HK.out.2.1 nd) (kN_ HK.out.2.2 nd))); have n4_ := ak_ (bN_ HB.out nd); clear BK2 BK4 BK7 HK HB; have BK2 := n0_; have BK4 := n1_; have BK7 := n2_; have HK := n3_; have HB := n4_; clear n0_ n1_ n2_ n3_ n4_
 generalize w9.drewN nd = w10 at BK2 BK4 BK7 HK HB ⊢
 refine hK.out _ _ ⟨(blk_cell BK7.out 0).trans rfl, (blk_cell BK7.out 1).trans rfl, (blk_cell BK2.out 0).trans rfl⟩ (fun hHeld => ?_)
 clear hK K
 refine nm_ ?_
 refine on_ 5 17 8 63 (fun K hK => ?_)
 refine Kd.R_lit_step (Kd.int .i64) w10.heap.size 3 ?hg (N := 17) ?hd (xs := [q]) (inner := [.int .i64 q]) (ok := fun _ => True) (okp := fun _ => True) ?hr ?hp (fun _ hk => hk) trivial (Below.refl w10.heap.size w10) (Nat.le_refl _) (by simp) ?_; (case hd => rfl); (case hg => rfl); (case hr => go_simp <;> rfl); (case hp => exact (Reps.one (show Kd.M (Kd.int .i64) _ _ _ q [.int .i64 q] from rfl) (Reps.none _ _)))
 intro s2 w11 ho0 hb0 hg_ hnew_
 clear hg_ hnew_
 obtain ⟨bs, cs, rfl, -, -, -⟩ := Kd.R_form ho0 (by simp)
 have HS := ak_ ho0
 have HB11 := ak_ hb0
 have HB10 := ak_ HB.out; have B10 := ak_ (And.intro BK2.out (And.intro BK4.out BK7.out)); have HE2 := ak_ (HE.out w10 HB.out Bn Bc Bl HK.out)
 have n0_ := ak_ (blk_below BK2.out hb0); have n1_ := ak_ (blk_below BK4.out hb0); have n2_ := ak_ (blk_below BK7.out hb0); have n3_ := ak_ (bs_ HB.out hb0); clear BK2 BK4 BK7 HB hb0 ho0; have BK2 := n0_; have BK4 := n1_; have BK7 := n2_; have HB := n3_; clear n0_ n1_ n2_ n3_
 refine hK.out _ _ ⟨(blk_cell BK7.out 0).trans rfl, (blk_cell BK7.out 1).trans rfl, (blk_cell BK2.out 0).trans rfl⟩ (fun hHeld => ?_)
 clear hK K
 refine nm_ ?_
 refine on_ 6 18 8 127 (fun K hK => ?_)
 refine goes_ Try.func84 (by kernel_rfl) rfl #[.agg #[.int .i64 (grN ws.length), .func (.func 138) #[] #[.pointer (some ⟨Bn, 0, none⟩), .pointer (some ⟨Bc, 0, none⟩), .pointer (some ⟨Bl, 0, none⟩)]], .slice (some ⟨bs, 0, none⟩) [q].length cs] (by rfl) rfl rfl (by first | rfl | (simp only [map_toArray, map_cons, map_nil]; try rfl)) ?_
 refine (A3.out w10 w11 _ HE2.out bs cs HB11.out HS.out).mono ?_
 rintro e_ w12 ⟨v12, rfl, hdi, hb⟩
 refine ⟨_, rfl, ?_⟩
 obtain ⟨gd, cd, rfl, -, -, -⟩ := Kd.R_form hdi HD0.out
 have HD := ak_ (Kd.R_lower hdi (bz_ HB10.out))
 have n0_ := ak_ (blk_below B10.out.1 hb); have n1_ := ak_ (blk_below B10.out.2.1 hb); have n2_ := ak_ (blk_below B10.out.2.2 hb); have n3_ := ak_ (And.intro (blk_below HK.out.1 hb) (And.intro (blk_below HK.out.2.1 hb) (blk_below HK.out.2.2 hb))); have n4_ := ak_ (bs_ HB10.out hb); clear BK2 BK4 BK7 HE2 HK HB HS HB11 HB10 hdi hb B10; have BK2 := n0_; have BK4 := n1_; have BK7 := n2_; have HK := n3_; have HB := n4_; clear n0_ n1_ n2_ n3_ n4_
 refine hK.out _ _ ⟨(blk_cell BK7.out 0).trans rfl, (blk_cell BK7.out 1).trans rfl, (blk_cell BK2.out 0).trans rfl⟩ (fun hHeld => ?_)
 clear hK K
 refine nm_ ?_
 refine pu_ 7 8 8 255 ?_
 refine done_ (done_of HT_.out (by kernel_rfl)) ?_
 try go_wp2
 have n0_ := ak_ (k1_ BK2.out); have n1_ := ak_ (k1_ BK4.out); have n2_ := ak_ (k1_ BK7.out); have n3_ := ak_ (And.intro (k1_ HK.out.1) (And.intro (k1_ HK.out.2.1) (k1_ HK.out.2.2))); have n4_ := ak_ (b1_ HB.out); have n5_ := ak_ (Kd.R_drew HD.out); clear BK2 BK4 BK7 HK HB HD; have BK2 := n0_; have BK4 := n1_; have BK7 := n2_; have HK := n3_; have HB := n4_; have HD := n5_; clear n0_ n1_ n2_ n3_ n4_ n5_
 have hx0_ := ((Kd.R_celln 0 HD.out 0 (by omega) (by omega)).1 : w12.drew.cell? ⟨gd, 0, none⟩ = some (.int .i64 (rdOf 0 dist' 0)))
 have HX := ak_ hx0_
 clear hx0_
 refine start_ (n := 9) (S := fun w' => w'.cell? ⟨gb7, 0, none⟩ = some (.int .i64 (grN ws.length)) ∧ w'.cell? ⟨gb7, 1, none⟩ = some (.func (.func 138) #[] #[.pointer (some ⟨Bn, 0, none⟩), .pointer (some ⟨Bc, 0, none⟩), .pointer (some ⟨Bl, 0, none⟩)]) ∧ w'.cell? ⟨gd, 0, none⟩ = some (.int .i64 (rdOf 0 dist' 0))) (ds := []) (mb_ 9 0) (by kernel_rfl) rfl rfl ⟨(blk_cell BK7.out 0).trans rfl, (blk_cell BK7.out 1).trans rfl, HX.out⟩ (fun hHeld => ?_); refine with_tabW impl_Crew_costs.T3_ impl_Crew_costs.B3_ (fun HT_ HW_ => ?_)
 generalize w12.drew = w13 at BK2 BK4 BK7 HK HB HD HX hHeld ⊢
 refine tk_ 0 19 9 1 ?_ (hy := by rintro w' ⟨s0, s1, s2⟩; go_simp; with_reducible rfl)
 refine pu_ 1 20 9 3 ?_
 refine pu_ 2 21 9 7 ?_
 refine pu_ 3 22 9 15 ?_
 refine tk_ 4 23 9 31 ?_ (hy := by rintro w' ⟨s0, s1, s2⟩; go_simp; with_reducible rfl)
 refine pu_ 5 24 9 63 ?_
 refine one_ (i := 6) (N := none) (mb_ 9 127) rfl rfl (one_of HT_.out (by kernel_rfl)) (by decide) (fun K hK => ?_)
 have hz40 := blk_cell BK4.out 0
 have hz41 := blk_cell BK4.out 1
 have hf40 := blk_frozen BK4.out 0
 have hf41 := blk_frozen BK4.out 1
 simp at hz40
 simp at hz41
 have B41 := ak_ (blk_put (cs' := #[.int .i64 (grN ws.length), .func (.func 138) #[] #[.pointer (some ⟨Bn, 0, none⟩), .pointer (some ⟨Bc, 0, none⟩), .pointer (some ⟨Bl, 0, none⟩)]]) (blk_put (cs' := #[.int .i64 (grN ws.length), .nilFunc]) BK4.out 0 (.int .i64 (grN ws.length)) rfl) 1 (.func (.func 138) #[] #[.pointer (some ⟨Bn, 0, none⟩), .pointer (some ⟨Bc, 0, none⟩), .pointer (some ⟨Bl, 0, none⟩)]) rfl)
 have B71 := ak_ (blk_far (p := ⟨gb4, 1, none⟩) (blk_far (p := ⟨gb4, 0, none⟩) BK7.out NE4_7.out.symm (.int .i64 (grN ws.length))) NE4_7.out.symm (.func (.func 138) #[] #[.pointer (some ⟨Bn, 0, none⟩), .pointer (some ⟨Bc, 0, none⟩), .pointer (some ⟨Bl, 0, none⟩)]))
 have D1 := ak_ (Kd.R_set (Kd.R_set HD.out BK4.out (by decide) 0 (.int .i64 (grN ws.length))) (blk_put (cs' := #[.int .i64 (grN ws.length), .nilFunc]) BK4.out 0 (.int .i64 (grN ws.length)) rfl) (by decide) 1 (.func (.func 138) #[] #[.pointer (some ⟨Bn, 0, none⟩), .pointer (some ⟨Bc, 0, none⟩), .pointer (some ⟨Bl, 0, none⟩)]))
 have HB1 := ak_ (below_set (v := (.func (.func 138) #[] #[.pointer (some ⟨Bn, 0, none⟩), .pointer (some ⟨Bc, 0, none⟩), .pointer (some ⟨Bl, 0, none⟩)])) (j := 1) (below_set (v := (.int .i64 (grN ws.length))) (j := 0) HB.out GE4.out) GE4.out)
 have K1 := ak_ (show ((w13.setCell ⟨gb4, 0, none⟩ (.int .i64 (grN ws.length))).setCell ⟨gb4, 1, none⟩ (.func (.func 138) #[] #[.pointer (some ⟨Bn, 0, none⟩), .pointer (some ⟨Bc, 0, none⟩), .pointer (some ⟨Bl, 0, none⟩)])).heap[Bn]? = some (.cells #[.int .i64 (ws.length : Int)] 3 (0, 0)) ∧ ((w13.setCell ⟨gb4, 0, none⟩ (.int .i64 (grN ws.length))).setCell ⟨gb4, 1, none⟩ (.func (.func 138) #[] #[.pointer (some ⟨Bn, 0, none⟩), .pointer (some ⟨Bc, 0, none⟩), .pointer (some ⟨Bl, 0, none⟩)])).heap[Bc]? = some (.cells #[.slice Aw ws.length cw, .slice Ar rs.length cr, .int .i64 most] 43 (0, 0)) ∧ ((w13.setCell ⟨gb4, 0, none⟩ (.int .i64 (grN ws.length))).setCell ⟨gb4, 1, none⟩ (.func (.func 138) #[] #[.pointer (some ⟨Bn, 0, none⟩), .pointer (some ⟨Bc, 0, none⟩), .pointer (some ⟨Bl, 0, none⟩)])).heap[Bl]? = some (.cells #[.bool false] 4 (0, 0)) from And.intro (blk_far (blk_far HK.out.1 (gr_typ HK.out.1 BK4.out (by decide)) (.int .i64 (grN ws.length))) (gr_typ HK.out.1 BK4.out (by decide)) (.func (.func 138) #[] #[.pointer (some ⟨Bn, 0, none⟩), .pointer (some ⟨Bc, 0, none⟩), .pointer (some ⟨Bl, 0, none⟩)])) (And.intro (blk_far (blk_far HK.out.2.1 (gr_typ HK.out.2.1 BK4.out (by decide)) (.int .i64 (grN ws.length))) (gr_typ HK.out.2.1 BK4.out (by decide)) (.func (.func 138) #[] #[.pointer (some ⟨Bn, 0, none⟩), .pointer (some ⟨Bc, 0, none⟩), .pointer (some ⟨Bl, 0, none⟩)])) (blk_far (blk_far HK.out.2.2 (gr_typ HK.out.2.2 BK4.out (by decide)) (.int .i64 (grN ws.length))) (gr_typ HK.out.2.2 BK4.out (by decide)) (.func (.func 138) #[] #[.pointer (some ⟨Bn, 0, none⟩), .pointer (some ⟨Bc, 0, none⟩), .pointer (some ⟨Bl, 0, none⟩)]))))
 refine skip_ (w1 := ?_) (by rfl) rfl ?_ ?_
 rotate_left
 ·go_simp
  rfl
 generalize (w13.setCell ⟨gb4, 0, none⟩ (.int .i64 (grN ws.length))).setCell ⟨gb4, 1, none⟩ (.func (.func 138) #[] #[.pointer (some ⟨Bn, 0, none⟩), .pointer (some ⟨Bc, 0, none⟩), .pointer (some ⟨Bl, 0, none⟩)]) = w14 at B41 B71 D1 HB1 K1 ⊢
 have hx0_ := ((Kd.R_celln 0 D1.out 0 (by omega) (by omega)).1 : w14.cell? ⟨gd, 0, none⟩ = some (.int .i64 (rdOf 0 dist' 0)))
 refine hK.out _ _ ⟨(blk_cell B71.out 0).trans rfl, (blk_cell B71.out 1).trans rfl, hx0_⟩ (fun hHeld => ?_)
 clear hK K hx0_
 refine pu_ 7 5 9 255 ?_
 refine pu_ 8 6 9 511 ?_
 refine done_ (done_of HT_.out (by kernel_rfl)) ?_
 try go_wp2
 refine bodyPost_ret (results_ctt rfl _ _ gb4 68 #[.int .i64 (grN ws.length), .func (.func 138) #[] #[.pointer (some ⟨Bn, 0, none⟩), .pointer (some ⟨Bc, 0, none⟩), .pointer (some ⟨Bl, 0, none⟩)]] (0, 0) _ rfl B41.out Try.underlying68 rfl (by kernel_rfl)) rfl ?_
 exact ⟨138, #[.pointer (some ⟨Bn, 0, none⟩), .pointer (some ⟨Bc, 0, none⟩), .pointer (some ⟨Bl, 0, none⟩)], gd, cd, rfl, enters_of Try.func138 (by kernel_rfl) rfl, HA.out, HE.out w14 HB1.out Bn Bc Bl K1.out, D1.out, HB1.out⟩
attribute [local go_sem] run_store_fn_
def impl_Crew_firstOf.f (k : Nat) (ws : List Int) (rs : List Bool) (most : Int) : Option (List (List Int) × Bool) := (impl_IsCrew.f ws rs most).bind fun b => if b = true then (impl_Crew_costs.f k ws rs most).bind fun p => if p.2 = true then (fiG (crewG k ws rs most) k (grN ws.length) 0 p.1).bind fun r => some (r, true) else some ([], false) else some ([], false)
theorem impl_Crew_firstOf.calls (k : Nat) (Aw : Option Addr) (cw : Nat) (ws : List Int) (Ar : Option Addr) (cr : Nat) (rs : List Bool) (most : Int) (r1 : List (List Int)) (r2 : Bool) (w : World) (hw : Kd.C (Kd.int .i64) w Aw ws.length ws) (hcw : ws.length ≤ cw) (hr : Kd.C Kd.bool w Ar rs.length rs) (hcr : rs.length ≤ cr) (h : impl_Crew_firstOf.f k ws rs most = some (r1, r2)) :
  Calls Try.prog 70 #[.agg #[.slice Aw ws.length cw, .slice Ar rs.length cr, .int .i64 most], .bool false] w fun e w' => ∃ v0_ : Value, e = .returned (.tuple #[v0_, .bool r2]) ∧ Kd.S (Kd.slice 3 (Kd.int .i64)) 29 w' w.heap.size (fun _ => True) v0_ r1 ∧ Below w.heap.size w w' := by
 have hu := Try.underlying43
 have hu2 := Try.underlying68
 unfold impl_Crew_firstOf.f at h
 obtain ⟨b1, h1, h⟩ := Option.bind_eq_some_iff.mp h
 have A1 := ak_ fun (W : World) (hb : Below w.heap.size w W) => impl_IsCrew.calls Aw cw ws Ar cr rs most b1 W (Kd.C_below hw hb) hcw (Kd.C_below hr hb) hcr h1
 have HB := ak_ (Below.refl w.heap.size w)
 cases b1
 ·rw [if_neg (by simp)] at h
  obtain ⟨rfl, rfl⟩ : ([] : List (List Int)) = r1 ∧ false = r2 := by simpa using h
  clear h h1 hw hcw hr hcr
  go_enter Try.func70, Try.ntmps70
  go_upto_region 1 with (first | ((with_reducible refine gate_dst (N := 2) rfl ?_); refine bx_ 2 #[.slice Aw ws.length cw, .slice Ar rs.length cr, .int .i64 most] 43 ?_; intro gb1 hg w1 hbox hb; have nb_ := ak_ (bs_ (bb_ HB.out) hb); have nc_ := ak_ hbox; have nd_ := ak_ ((by rw [hg]; exact (bz_ (bb_ HB.out)) : w.heap.size ≤ gb1)); clear HB hb hbox hg; have HB := nb_; have BK1 := nc_; have GE1 := nd_; clear nb_ nc_ nd_; have hz1_0 := (blk_cell BK1.out 0); have hf1_0 := (blk_frozen BK1.out 0); simp at hz1_0; have hz1_1 := (blk_cell BK1.out 1); have hf1_1 := (blk_frozen BK1.out 1); simp at hz1_1; have hz1_2 := (blk_cell BK1.out 2); have hf1_2 := (blk_frozen BK1.out 2); simp at hz1_2; skip))
  have hq0 := blk_cell BK1.out 0
  have hq1 := blk_cell BK1.out 1
  have hq2 := blk_cell BK1.out 2
  simp at hq0
  simp at hq1
  simp at hq2
  go_wp2_with (go_at_call 57; refine (A1.out _ (bb_ HB.out)).mono ?_; rintro e w8 ⟨rfl, hb⟩; clear hq0 hq1 hq2 A1; have n0_ := ak_ (blk_below (pk BK1.out) hb); have n1_ := ak_ (bs_ (bb_ HB.out) hb); clear BK1 HB hb; have BK1 := n0_; have HB := n1_; clear n0_ n1_)
  first | go_ret2 | go_ret
  exact ⟨_, rfl, Kd.S_nil _ _ _ _ _, (bb_ HB.out)⟩
 ·rw [if_pos rfl] at h
  skip
  obtain ⟨⟨dist, b2⟩, h2, h⟩ := Option.bind_eq_some_iff.mp h
  have A2 := ak_ fun (W : World) (hb : Below w.heap.size w W) => impl_Crew_costs.calls k Aw cw ws Ar cr rs most dist b2 W (Kd.C_below hw hb) hcw (Kd.C_below hr hb) hcr h2
  have H := ak_ h
  have HN := ak_ h1
  clear h h1 h2 hw hcw hr hcr
  go_enter Try.func70, Try.ntmps70
  go_upto_region 1 with (first | ((with_reducible refine gate_dst (N := 2) rfl ?_); refine bx_ 2 #[.slice Aw ws.length cw, .slice Ar rs.length cr, .int .i64 most] 43 ?_; intro gb1 hg w1 hbox hb; have nb_ := ak_ (bs_ (bb_ HB.out) hb); have nc_ := ak_ hbox; have nd_ := ak_ ((by rw [hg]; exact (bz_ (bb_ HB.out)) : w.heap.size ≤ gb1)); clear HB hb hbox hg; have HB := nb_; have BK1 := nc_; have GE1 := nd_; clear nb_ nc_ nd_; have hz1_0 := (blk_cell BK1.out 0); have hf1_0 := (blk_frozen BK1.out 0); simp at hz1_0; have hz1_1 := (blk_cell BK1.out 1); have hf1_1 := (blk_frozen BK1.out 1); simp at hz1_1; have hz1_2 := (blk_cell BK1.out 2); have hf1_2 := (blk_frozen BK1.out 2); simp at hz1_2; skip))
  have hq0 := blk_cell BK1.out 0
  have hq1 := blk_cell BK1.out 1
  have hq2 := blk_cell BK1.out 2
  simp at hq0
  simp at hq1
  simp at hq2
  go_upto_region 3 with (go_at_call 57; refine (A1.out _ (bb_ HB.out)).mono ?_; rintro e w8 ⟨rfl, hb⟩; clear hq0 hq1 hq2 A1; have n0_ := ak_ (blk_below (pk BK1.out) hb); have n1_ := ak_ (bs_ (bb_ HB.out) hb); clear BK1 HB hb; have BK1 := n0_; have HB := n1_; clear n0_ n1_)
  have hq0 := blk_cell BK1.out 0
  have hq1 := blk_cell BK1.out 1
  have hq2 := blk_cell BK1.out 2
  simp at hq0
  simp at hq1
  simp at hq2
  go_upto_region 4 with (first | (go_at_call 58; refine (A2.out _ (bb_ HB.out)).mono ?_; rintro e w12 ⟨fo, cb, gd, cd, rfl, hen, hga, hgo, hdi, hb⟩; have HEN := ak_ hen; have HGA := ak_ hga; have HGO := ak_ hgo; have HD := ak_ hdi; have HB12 := ak_ (Below.refl w12.heap.size w12); clear hq0 hq1 hq2 A2; have n0_ := ak_ (blk_below (pk BK1.out) hb); have n1_ := ak_ (bs_ (bb_ HB.out) hb); clear BK1 HB hb hen hga hgo hdi; have BK1 := n0_; have HB := n1_; clear n0_ n1_) | ((with_reducible refine gate_dst (N := 6) rfl ?_); refine bx_ 6 #[.int .i64 0, .nilFunc] 68 ?_; intro gb4 hg w4 hbox hb; have n0_ := ak_ (blk_below (pk BK1.out) hb); have m0_ := ak_ ((by rw [hg]; exact Nat.ne_of_lt (blk_lt (pk BK1.out)) : gb1 ≠ gb4)); have nb_ := ak_ (bs_ (bb_ HB.out) hb); have nc_ := ak_ hbox; have nd_ := ak_ ((by rw [hg]; exact (bz_ (bb_ HB.out)) : w.heap.size ≤ gb4)); have n12_ := ak_ hb; have HG12 := ak_ (by rw [hg]; exact Nat.le_refl _ : w12.heap.size ≤ gb4); clear HB HB12 hb hbox hg; have HB12 := n12_; clear n12_; clear BK1; have BK1 := n0_; have NE1_4 := m0_; have HB := nb_; have BK4 := nc_; have GE4 := nd_; clear nb_ nc_ nd_ n0_ m0_; have hz4_0 := (blk_cell BK4.out 0); have hf4_0 := (blk_frozen BK4.out 0); simp at hz4_0; have hz4_1 := (blk_cell BK4.out 1); have hf4_1 := (blk_frozen BK4.out 1); simp at hz4_1; skip))
  have B41 := ak_ (blk_put (cs' := #[.int .i64 (grN ws.length), .func (.func fo) #[] cb]) (blk_put (cs' := #[.int .i64 (grN ws.length), .nilFunc]) BK4.out 0 (.int .i64 (grN ws.length)) rfl) 1 (.func (.func fo) #[] cb) rfl)
  have HB1 := ak_ (below_set (v := (.func (.func fo) #[] cb)) (j := 1) (below_set (v := (.int .i64 (grN ws.length))) (j := 0) HB.out GE4.out) GE4.out)
  have HB2 := ak_ (below_set (v := (.func (.func fo) #[] cb)) (j := 1) (below_set (v := (.int .i64 (grN ws.length))) (j := 0) HB12.out HG12.out) HG12.out)
  generalize (w4.setCell ⟨gb4, 0, none⟩ (.int .i64 (grN ws.length))).setCell ⟨gb4, 1, none⟩ (.func (.func fo) #[] cb) = w5 at B41 HB1 HB2 ⊢
  clear BK4 HB HB12 hz4_0 hz4_1 hf4_0 hf4_1
  have HB := HB1; clear HB1
  have h := H.out
  cases b2
  ·rw [if_neg (by simp)] at h
   obtain ⟨rfl, rfl⟩ : ([] : List (List Int)) = r1 ∧ false = r2 := by simpa using h
   clear h H
   go_wp2
   first | go_ret2 | go_ret
   exact ⟨_, rfl, Kd.S_nil _ _ _ _ _, (bb_ HB.out)⟩
  ·rw [if_pos rfl] at h
   obtain ⟨r, h3, h⟩ := Option.bind_eq_some_iff.mp h
   obtain ⟨rfl, rfl⟩ : r = r1 ∧ true = r2 := by simpa using h
   unfold fiG at h3
   rw [if_pos HGA.out] at h3
   have A3 := ak_ fun (W : World) (hb : Below w12.heap.size w12 W) => impl_graph_int_first.calls fo cb (grN ws.length) (grE (crewG k ws rs most)) w12 W HEN.out HGO.out hb k 0 (some ⟨gd, 0, none⟩) cd dist r (Kd.C_below (Kd.R_reads' HD.out).2.2 hb) h3
   have hz0 := blk_cell B41.out 0
   have hz1 := blk_cell B41.out 1
   simp at hz0
   simp at hz1
   clear h h3 H
   go_wp2_with (go_at_call 76; refine (A3.out _ (by repeat (first | (with_reducible first | exact HB2.out | apply ba_ | apply bN_ | apply b1_) | exact HB2.out))).mono ?_; rintro e w20 ⟨v20, rfl, ho, hb⟩; have HO := ak_ (Kd.S_lower ho (bz_ (bb_ HB.out))); have n0_ := ak_ (bs_ (bb_ HB.out) hb); clear HB HB2 hb ho; have HB := n0_; clear n0_)
   first | go_ret2 | go_ret
   exact ⟨_, rfl, Kd.S_below HO.out be_, (bb_ HB.out)⟩
def impl_FirstOfCrew.f (k : Nat) (ws : List Int) (rs : List Bool) (most : Int) : Option (List (List Int) × Bool) := impl_Crew_firstOf.f k ws rs most
theorem impl_FirstOfCrew.calls (k : Nat) (Aw : Option Addr) (cw : Nat) (ws : List Int) (Ar : Option Addr) (cr : Nat) (rs : List Bool) (most : Int) (r1 : List (List Int)) (r2 : Bool) (w : World) (hw : Kd.C (Kd.int .i64) w Aw ws.length ws) (hcw : ws.length ≤ cw) (hr : Kd.C Kd.bool w Ar rs.length rs) (hcr : rs.length ≤ cr) (h : impl_FirstOfCrew.f k ws rs most = some (r1, r2)) :
  Calls Try.prog 29 #[.agg #[.slice Aw ws.length cw, .slice Ar rs.length cr, .int .i64 most]] w fun e w' => ∃ v0_ : Value, e = .returned (.tuple #[v0_, .bool r2]) ∧ Kd.S (Kd.slice 3 (Kd.int .i64)) 29 w' w.heap.size (fun _ => True) v0_ r1 ∧ Below w.heap.size w w' := by
 have hu := Try.underlying43
 unfold impl_FirstOfCrew.f at h
 have A1 := ak_ fun (W : World) (hb : Below w.heap.size w W) => impl_Crew_firstOf.calls k Aw cw ws Ar cr rs most r1 r2 W (Kd.C_below hw hb) hcw (Kd.C_below hr hb) hcr h
 have HB := ak_ (Below.refl w.heap.size w)
 clear h hw hcw hr hcr
 go_enter Try.func29, Try.ntmps29
 go_upto_region 1 with (first | ((with_reducible refine gate_dst (N := 1) rfl ?_); refine bx_ 1 #[.slice Aw ws.length cw, .slice Ar rs.length cr, .int .i64 most] 43 ?_; intro gb1 hg w1 hbox hb; have nb_ := ak_ (bs_ (bb_ HB.out) hb); have nc_ := ak_ hbox; have nd_ := ak_ ((by rw [hg]; exact (bz_ (bb_ HB.out)) : w.heap.size ≤ gb1)); clear HB hb hbox hg; have HB := nb_; have BK1 := nc_; have GE1 := nd_; clear nb_ nc_ nd_; have hz1_0 := (blk_cell BK1.out 0); have hf1_0 := (blk_frozen BK1.out 0); simp at hz1_0; have hz1_1 := (blk_cell BK1.out 1); have hf1_1 := (blk_frozen BK1.out 1); simp at hz1_1; have hz1_2 := (blk_cell BK1.out 2); have hf1_2 := (blk_frozen BK1.out 2); simp at hz1_2; skip))
 have hq0 := blk_cell BK1.out 0
 have hq1 := blk_cell BK1.out 1
 have hq2 := blk_cell BK1.out 2
 simp at hq0
 simp at hq1
 simp at hq2
 go_wp2_with (go_at_call 70; refine (A1.out _ (bb_ HB.out)).mono ?_; rintro e w8 ⟨v8, rfl, ho, hb⟩; have HO := ak_ (Kd.S_lower ho (bz_ (bb_ HB.out))); have n0_ := ak_ (bs_ (bb_ HB.out) hb); clear HB hb ho A1; have HB := n0_; clear n0_)
 first | go_ret2 | go_ret
 exact ⟨_, rfl, Kd.S_below HO.out be_, (bb_ HB.out)⟩
end Go.Proofs.Ythkchdfkeieabaa.QGr
