/- Contracts of functions of the given program, walked. Conditions: those at each theorem. -/
import Derived.Test.YthkchdfkeieabaaQGrx0
import Derived.Test.YthkchdfkeieabaaQGrx1
import Derived.Test.YthkchdfkeieabaaQGrx11
import Derived.Test.YthkchdfkeieabaaQGrx14
import Derived.Test.YthkchdfkeieabaaQGrx17
namespace Go.Proofs.Ythkchdfkeieabaa.QGr
open Go.RowKit Go.Proofs.YthkchdfkeieabaaW.PrintWords Go.Proofs.YthkchdfkeieabaaW.PrintLast Go.Proofs.YthkchdfkeieabaaW.PrintMore
open List (setIfInBounds_toArray set_cons_zero set_cons_succ map_toArray map_cons map_nil)
attribute [local go_sem] max2_int min2_int max_two min_two max_three min_three max_four min_four
set_option linter.unusedVariables false
set_option maxHeartbeats 8000000
set_option maxRecDepth 100000
set_option linter.unusedSimpArgs false
theorem ls_lead {α : Type} {d : Kd α} {eI e g n cap base : Nat} {ok : Nat → Prop} {W : World} {ls : List (List α)} {cl : Array Value} (h : Kd.S (Kd.slice eI d) e W base ok (.slice (some ⟨g, 0, none⟩) n cap) ls) (hb : W.heap[g]? = some (.cells cl e (0, 0))) :
  ∃ f : Nat → Nat, ∀ (j : Nat) (l : List α), ls[j]? = some l → ∃ u : Value, cl[j]? = some u ∧ d.R eI W base (fun k => (ok k ∧ k ≠ g) ∧ f k = j) u l := by
 obtain ⟨f, hown, inner, ho, hl, hr⟩ := h
 refine ⟨f, fun j l hj => ?_⟩
 obtain ⟨v, hc, hR⟩ := hr j (l, j) (Kd.zip_at hj)
 rcases ho.2 with ⟨hv, _⟩ | ⟨g', cap', cur, hv, -, hh, -, -, -, ht⟩
 ·cases hv
 cases hv
 rw [hb] at hh
 injection hh with hh
 injection hh with hh _
 subst hh
 have hjl := (List.getElem?_eq_some_iff.1 hj).1
 have hsz : (Kd.tag f (Kd.slice eI d)).sz = 1 := rfl
 rw [hsz] at hc ht
 refine ⟨v, ?_, Kd.R_mono hR (fun k hk => ⟨⟨hk.1.1, fun e_ => hk.1.2 (by rw [e_]; rfl)⟩, hk.2⟩)⟩
 have h2 : inner[j]? = some v := by
  have h3 := congrArg (fun l : List Value => l[0]?) hc
  simp only [List.getElem?_take, List.getElem?_drop, Nat.mul_one, Nat.add_zero] at h3
  simpa using h3
 rw [← ht, List.getElem?_take] at h2
 split at h2
 ·rw [Array.getElem?_toList] at h2
  exact h2
 ·exact absurd h2 (by simp)
def edRel (cl : Array Value) (ls : List (List Int)) (acc : List S110) (res : List REdge) : Prop := acc.length = res.length ∧ ∀ (i : Nat) (a : S110) (r : REdge), acc[i]? = some a → res[i]? = some r → r.f0 = a.f0 ∧ r.f1 = a.f1 ∧ ls[i]? = some a.f2 ∧ cl[i]? = some (.slice r.A r.n r.c)
theorem edRel.snoc {cl : Array Value} {ls : List (List Int)} {acc : List S110} {res : List REdge} (h : edRel cl ls acc res) {j : Nat} (hj : acc.length = j) {q c : Int} {l : (List Int)} {A : Option Addr} {n cc : Nat} (hl : ls[j]? = some l) (hc : cl[j]? = some (.slice A n cc)) : edRel cl ls (acc ++ [⟨q, c, l⟩]) (res ++ [⟨q, c, A, n, cc⟩]) := by
 refine ⟨by rw [List.length_append, List.length_append, h.1]; rfl, fun i a r ha hr => ?_⟩
 rcases Nat.lt_or_ge i acc.length with hi | hi
 ·rw [List.getElem?_append_left hi] at ha
  rw [List.getElem?_append_left (by rw [← h.1]; exact hi)] at hr
  exact h.2 i a r ha hr
 ·have hi' := (List.getElem?_eq_some_iff.1 ha).1
  rw [List.length_append, List.length_singleton] at hi'
  have e : i = acc.length := by omega
  subst e
  rw [List.getElem?_append_right (Nat.le_refl _), Nat.sub_self] at ha
  rw [h.1, List.getElem?_append_right (Nat.le_refl _), Nat.sub_self] at hr
  obtain rfl := Option.some.inj ha
  obtain rfl := Option.some.inj hr
  rw [hj]
  exact ⟨rfl, rfl, hl, hc⟩
theorem edRel.shut {W : World} {base g n cap : Nat} {ok okr : Nat → Prop} {ls : List (List Int)} {cl : Array Value} {v : Value} {es : List S110} {res : List REdge} (h : edRel cl ls es res) (hls : Kd.S (Kd.slice 3 (Kd.int .i64)) 29 W base ok (.slice (some ⟨g, 0, none⟩) n cap) ls) (hb : W.heap[g]? = some (.cells cl 29 (0, 0)))
  (hR : kre.R 110 W base okr v res) (hne : 110 ∉ 3 :: (Kd.int .i64).E) : Kd.S k110 110 W base (fun _ => True) v es := by
 obtain ⟨f, hf⟩ := ls_lead hls hb
 have hL : LeadT W base (fun k => some k ≠ v.ownBlock) f es.zipIdx res := LeadT.of (by rw [List.length_zipIdx]; exact h.1) (fun j z r hz hr => by
  rw [List.getElem?_zipIdx, Nat.zero_add] at hz
  obtain ⟨a, ha, rfl⟩ := Option.map_eq_some_iff.1 hz
  obtain ⟨e0, e1, hl, hc⟩ := h.2 j a r ha hr
  obtain ⟨u, hu, hR2⟩ := hf j a.f2 hl
  rw [hc] at hu
  obtain rfl := Option.some.inj hu
  refine ⟨e0, e1, Kd.R_mono (Kd.R_bound hR2) (fun k hk => ⟨fun e_ => ?_, hk.1.2⟩)⟩
  obtain ⟨_, _, _, q, hq, cells, hcq⟩ := hk
  obtain ⟨cells2, hc2⟩ := Kd.R_typed hR k e_.symm
  rw [hcq] at hc2
  injection hc2 with hc2
  injection hc2 with _ hc2
  exact hne (hc2 ▸ hq))
 have h2 := lead_shut hR hL (by rw [List.zipIdx_map_snd]; exact List.nodup_range') (fun k hk => hk)
 rw [List.zipIdx_map_fst] at h2
 exact h2
def kpEd (k : Nat) (ov : List Bool) (tq : Bool) : List (List Int) → List S110 → Option (List S110)
 | [], acc => some acc
 | l :: ls, acc => (impl_Bank_ridden.f k ov tq l).bind fun st => (impl_State_code.f k st.1 st.2).bind fun q => if acc.length < 1000000 then kpEd k ov tq ls (acc ++ [⟨q, 1, l⟩]) else none
def kpG (k : Nat) (th : Int) (ds : List (List Int)) (se : Int) (s : Int) : Option (List S110) :=
 (impl_stateOf.f k th s).bind fun st => (impl_Keep_rides.f k th ds se st.1 st.2).bind fun ls => if ls.length < 1000000 then kpEd k st.1 st.2 ls [] else none
theorem impl_Keep_graph.calls_1 (k : Nat) (Bk : Nat) (th : Int) (Ad : Option Addr) (cd0 : Nat) (ds : List (List Int)) (se s : Int) (es : List S110) (w : World)
  (hBc : w.heap[Bk]? = some (.cells #[.int .i64 th, .slice Ad ds.length cd0, .int .i64 se] 52 (0, 0)))
  (hd : Kd.C (Kd.slice 3 (Kd.int .i64)) w Ad ds.length ds) (hdc : ds.length ≤ cd0) (h : kpG k th ds se s = some es) :
  Calls Try.prog 141 #[.int .i64 s, .pointer (some ⟨Bk, 0, none⟩)] w fun e w' => ∃ v : Value, e = .returned v ∧ Kd.S k110 110 w' w.heap.size (fun _ => True) v es ∧ Below w.heap.size w w' := by
 have hu := Try.underlying52
 have hu2 := Try.underlying110
 have hu3 := Try.underlying115
 have hu4 := Try.underlying90
 unfold kpG at h
 obtain ⟨⟨ov, tq⟩, h1, h⟩ := Option.bind_eq_some_iff.mp h
 obtain ⟨ls, h2, h⟩ := Option.bind_eq_some_iff.mp h
 by_cases hls : ls.length < 1000000
 rotate_left
 ·rw [if_neg hls] at h; exact absurd h (by simp)
 rw [if_pos hls] at h
 have A1 := ak_ fun (W : World) => impl_stateOf.calls k th s ov tq W h1
 have A2 := ak_ fun (W : World) (hb : Below w.heap.size w W) (Ao : Option Addr) (c0 : Nat) (ho : Kd.C Kd.bool W Ao ov.length ov) (hco : ov.length ≤ c0) => impl_Keep_rides.calls k th Ad cd0 ds se Ao c0 ov tq ls W (Kd.C_below hd hb) hdc ho hco h2
 have HLS := ak_ hls
 have H := ak_ h
 have HB := ak_ (Below.refl w.heap.size w)
 have hc0 := blk_cell hBc 0
 have hc1 := blk_cell hBc 1
 have hc2 := blk_cell hBc 2
 simp at hc0
 simp at hc1
 simp at hc2
 have BC := ak_ hBc
 clear h h1 h2 hls hBc hd hdc
 go_enter Try.func141, Try.ntmps141
 go_upto_region 2 with (first | (go_at_call 123; refine (A1.out _).mono ?_; rintro e w13 ⟨v13, rfl, ho, hb⟩; obtain ⟨Ao, c0, rfl⟩ := Kd.R_slice ho; have OV := ak_ ho; clear hc0 hc1 hc2; have n0_ := ak_ (blk_below BC.out hb); have n1_ := ak_ (bs_ HB.out hb); clear BC HB hb ho; have BC := n0_; have HB := n1_; clear n0_ n1_))
 have hkr := Kd.R_alloc (Kd.S_R (gp_lit0 kre 110 w13 (bz_ HB.out))) (.cells #[.slice Ao ov.length c0, .bool tq] 115)
 have hk6 := gp_new2 w13 (.cells #[] 110) (.cells #[.slice Ao ov.length c0, .bool tq] 115)
 have hb5 := (ba_ (ba_ (Below.refl w13.heap.size w13) (.cells #[] 110)) (.cells #[.slice Ao ov.length c0, .bool tq] 115))
 generalize (w13.alloc (.cells #[] 110)).alloc (.cells #[.slice Ao ov.length c0, .bool tq] 115) = w5 at hkr hk6 hb5 ⊢
 generalize Value.slice (some ⟨w13.heap.size, 0, none⟩) 0 0 = v5 at hkr ⊢
 generalize w13.heap.size + 1 = gs6 at hk6 ⊢
 have n0_ := ak_ (blk_below BC.out hb5); have n1_ := ak_ (bs_ HB.out hb5); have n2_ := ak_ (Kd.R_below OV.out hb5); clear BC HB OV hb5; have BC := n0_; have HB := n1_; have OV := n2_; clear n0_ n1_ n2_
 have HR := ak_ hkr
 have BS := ak_ hk6
 have hq3 := blk_cell BS.out 0
 have hq4 := blk_cell BS.out 1
 simp at hq3
 simp at hq4
 clear hkr hk6
 go_upto_region 3 with (fail)
 have n0_ := ak_ (Kd.R_alloc HR.out (.cells #[.slice Ao ov.length c0, .bool tq] 90))
 have n1_ := ak_ (Kd.R_alloc OV.out (.cells #[.slice Ao ov.length c0, .bool tq] 90))
 have n2_ := ak_ (ka_ BC.out (.cells #[.slice Ao ov.length c0, .bool tq] 90))
 have n3_ := ak_ (ba_ HB.out (.cells #[.slice Ao ov.length c0, .bool tq] 90))
 have n4_ := ak_ (blk_new w5 (.cells #[.slice Ao ov.length c0, .bool tq] 90))
 clear HR OV BC HB BS hq3 hq4
 generalize w5.alloc (.cells #[.slice Ao ov.length c0, .bool tq] 90) = w6 at n0_ n1_ n2_ n3_ n4_ ⊢
 generalize w5.heap.size = gb6 at n4_ ⊢
 have HR := n0_; have OV := n1_; have BC := n2_; have HB := n3_; have BK6 := n4_
 clear n0_ n1_ n2_ n3_ n4_
 have hz6_0 := blk_cell BK6.out 0
 have hz6_1 := blk_cell BK6.out 1
 simp at hz6_0
 simp at hz6_1
 have hq0 := blk_cell BC.out 0
 have hq1 := blk_cell BC.out 1
 have hq2 := blk_cell BC.out 2
 simp at hq0
 simp at hq1
 simp at hq2
 go_wp2_with (first | (go_at_call 142; refine (A2.out _ (bb_ HB.out) Ao c0 (Kd.R_reads' OV.out).2.2 (Kd.R_reads' OV.out).2.1).mono ?_; rintro e w17 ⟨v17, rfl, ho, hb⟩; obtain ⟨Al, cl_, rfl⟩ := Kd.S_slice ho; have HLR := ak_ (Kd.S_lower ho (bz_ (bb_ HB.out))); clear hq0 hq1 hq2 hz6_0 hz6_1; have n0_ := ak_ (blk_below (pk BC.out) hb); have n1_ := ak_ (blk_below (pk BK6.out) hb); have n2_ := ak_ (bs_ (bb_ HB.out) hb); have n3_ := ak_ (Kd.R_below (Kd.pR OV.out) hb); have n4_ := ak_ (Kd.R_below (Kd.pR HR.out) hb); clear BC BK6 HB OV HR hb ho; have BC := n0_; have BK6 := n1_; have HB := n2_; have OV := n3_; have HR := n4_; clear n0_ n1_ n2_ n3_ n4_))
 obtain ⟨gl, cl, hAl⟩ : ∃ (gl : Nat) (cl : Array Value), ls.length = 0 ∨ (Al = some ⟨gl, 0, none⟩ ∧ w17.heap[gl]? = some (.cells cl 29 (0, 0))) := by
  rcases Nat.eq_zero_or_pos ls.length with h0 | h0
  ·exact ⟨0, #[], .inl h0⟩
  ·obtain ⟨g, cap, e, -, -, cl, hc⟩ := Kd.S_form HLR.out h0
   injection e with e1 _ e3
   exact ⟨g, cl, .inr ⟨e1, hc⟩⟩
 have HAL := ak_ hAl
 have HER := ak_ (show edRel cl ls [] [] from ⟨rfl, fun i a r h _ => by simp at h⟩)
 clear hAl
 go_loopg [5, 23] ls.length (fun gg v7 v19 wr => ∃ (j : Nat) (acc : List S110) (res : List REdge), v19 = .int .i64 (j : Int) ∧ Aside0 (j ≤ ls.length ∧ ls.length - j ≤ gg ∧ acc.length = j) ∧ Aside0 (kpEd k ov tq (ls.drop j) acc = some es) ∧ Aside0 (edRel cl ls acc res) ∧ Aside0 (kre.R 110 wr w.heap.size (fun _ => True) v7 res) ∧ Aside0 (Kd.S (Kd.slice 3 (Kd.int .i64)) 29 wr w.heap.size (fun _ => True) (.slice Al ls.length cl_) ls) ∧ Aside0 (ls.length = 0 ∨ (Al = some ⟨gl, 0, none⟩ ∧ wr.heap[gl]? = some (.cells cl 29 (0, 0)))) ∧ Aside0 (wr.heap[gb6]? = some (.cells #[.slice Ao ov.length c0, .bool tq] 90 (0, 0))) ∧ Aside0 (Kd.R Kd.bool 4 wr w.heap.size (fun _ => True) (.slice Ao ov.length c0) ov) ∧ Aside0 (Below w.heap.size w wr))
 case atStart => exact ⟨0, [], [], rfl, ⟨⟨Nat.zero_le _, Nat.le_refl _, rfl⟩⟩, H, HER, ⟨Kd.pR HR.out⟩, ⟨Kd.pS HLR.out⟩, HAL, ⟨pk BK6.out⟩, ⟨Kd.pR OV.out⟩, ⟨(bb_ HB.out)⟩⟩
 case round =>
  clear H HER HR HLR HAL BK6 OV HB BC
  obtain ⟨j, acc, res, rfl, HJ, H, HER, HR, HLR, HAL, BK6, OV, HB⟩ := hrel
  by_cases hj : j < ls.length
  ·have j1 : decide ((j : Int) < (ls.length : Int)) = true := decide_eq_true (by omega)
   have j1n : decide (j < ls.length) = true := decide_eq_true hj
   have j0p : ((0 : Int) ≤ (j : Int)) = True := eq_true (by omega)
   have j1p : ((j : Int) < (ls.length : Int)) = True := eq_true (by omega)
   rcases HAL.out with h0 | ⟨rfl, hbl⟩
   ·exact absurd h0 (by omega)
   obtain ⟨vi, oki, hcell, -, hRi, -, -⟩ := fr_lend HLR.out (j : Int) (by omega) (by omega)
   rw [Int.toNat_natCast] at hcell hRi
   obtain ⟨Aj, cj, rfl⟩ := Kd.R_slice hRi
   have hcl : cl[j]? = some (.slice Aj (ls.getD j []).length cj) := by rw [← blk_cell hbl]; exact hcell
   obtain ⟨l, hl⟩ : ∃ l, l = ls.getD j [] := ⟨_, rfl⟩
   rw [← hl] at hcell hRi hcl
   have hlj : ls[j]? = some l := by rw [hl, List.getD_eq_getElem?_getD, List.getElem?_eq_getElem hj]; rfl
   have h := H.out
   rw [List.drop_eq_getElem_cons hj, show ls[j] = l from by rw [List.getElem?_eq_getElem hj] at hlj; exact Option.some.inj hlj] at h
   simp only [kpEd] at h
   obtain ⟨⟨mo, mt⟩, h3, h⟩ := Option.bind_eq_some_iff.mp h
   obtain ⟨q, h4, h⟩ := Option.bind_eq_some_iff.mp h
   by_cases hac : acc.length < 1000000
   rotate_left
   ·rw [if_neg hac] at h; exact absurd h (by simp)
   rw [if_pos hac] at h
   have A3 := ak_ fun (W : World) (hb : Below wr.heap.size wr W) => impl_Bank_ridden.calls k Ao c0 ov tq Aj cj l mo mt W (Kd.C_below (Kd.R_reads' OV.out).2.2 hb) (Kd.R_reads' OV.out).2.1 (Kd.C_below (Kd.R_reads' hRi).2.2 hb) (Kd.R_reads' hRi).2.1 h3
   have A5 := ak_ fun (W : World) (Am : Option Addr) (cm : Nat) (hm : Kd.C Kd.bool W Am mo.length mo) (hcm : mo.length ≤ cm) => impl_Bank_state.calls (fun k_ => k_ < W.heap.size) Am cm mo mt mo mt W (Kd.V_mk hcm (Kd.C_F Kd.heap_bool hm)) rfl
   have A4 := ak_ fun (W : World) (Am : Option Addr) (cm : Nat) (hm : Kd.C Kd.bool W Am mo.length mo) (hcm : mo.length ≤ cm) => impl_State_code.calls k Am cm mo mt q W hm hcm h4
   have HBR := ak_ (Below.refl wr.heap.size wr)
   have HER2 := ak_ (HER.out.snoc HJ.out.2.2 (q := q) (c := 1) hlj hcl)
   have H2 := ak_ h
   have HACC := ak_ (And.intro hac HER.out.1)
   have BLS := ak_ hbl
   have HJJ := ak_ hj
   have hw19 : IntKind.i64.wrap ((j : Int) + 1) = ((j + 1 : Nat) : Int) := by have := HLS.out; rw [IntWalk.i64_in _ ⟨by omega, by omega⟩]; omega
   have hz0 := blk_cell BK6.out 0
   have hz1 := blk_cell BK6.out 1
   simp at hz0
   simp at hz1
   clear h h3 h4 H hl hlj hcl hRi hbl hac HER HAL hj
   go_upto_region 6 with (fail)
   go_wp2_with (first | (go_at_call 143; refine (A3.out _ (by repeat (first | (with_reducible first | exact HBR.out | apply ba_ | apply bN_ | apply b1_) | exact HBR.out))).mono ?_; rintro e w30 ⟨v30, rfl, ho, hb⟩; obtain ⟨Am, cm, rfl⟩ := Kd.R_slice ho; have OM := ak_ ho; clear A3; have n0_ := ak_ (blk_below BK6.out hb); have n1_ := ak_ (blk_below BLS.out hb); have n2_ := ak_ (Kd.R_below (Kd.pR HR.out) hb); have n3_ := ak_ (Kd.S_below (Kd.pS HLR.out) hb); have n4_ := ak_ (Kd.R_below (Kd.pR OV.out) hb); have n5_ := ak_ (bs_ (bb_ HB.out) hb); clear BK6 BLS HR HLR OV HB hb ho HBR; have BK6 := n0_; have BLS := n1_; have HR := n2_; have HLR := n3_; have OV := n4_; have HB := n5_; clear n0_ n1_ n2_ n3_ n4_ n5_) | (go_at_call 144; refine (A5.out _ Am cm (Kd.R_reads' OM.out).2.2 (Kd.R_reads' OM.out).2.1).mono ?_; rintro e w38 ⟨v38, rfl, hv_, hb⟩; obtain ⟨As, cs, rfl⟩ := Kd.V_slice hv_; have SV := ak_ (Kd.V_reads' hv_); clear A5 OM; have n0_ := ak_ (blk_below BK6.out hb); have n1_ := ak_ (blk_below BLS.out hb); have n2_ := ak_ (Kd.R_below (Kd.pR HR.out) hb); have n3_ := ak_ (Kd.S_below (Kd.pS HLR.out) hb); have n4_ := ak_ (Kd.R_below (Kd.pR OV.out) hb); have n5_ := ak_ (bs_ (bb_ HB.out) hb); clear BK6 BLS HR HLR OV HB hb hv_; have BK6 := n0_; have BLS := n1_; have HR := n2_; have HLR := n3_; have OV := n4_; have HB := n5_; clear n0_ n1_ n2_ n3_ n4_ n5_) | (go_at_call 126; refine (A4.out _ As cs SV.out.2.2 SV.out.2.1).mono ?_; rintro e w31 ⟨rfl, hb⟩; clear A4 SV; have n0_ := ak_ (blk_below BK6.out hb); have n1_ := ak_ (blk_below BLS.out hb); have n2_ := ak_ (Kd.R_below (Kd.pR HR.out) hb); have n3_ := ak_ (Kd.S_below (Kd.pS HLR.out) hb); have n4_ := ak_ (Kd.R_below (Kd.pR OV.out) hb); have n5_ := ak_ (bs_ (bb_ HB.out) hb); clear BK6 BLS HR HLR OV HB hb; have BK6 := n0_; have BLS := n1_; have HR := n2_; have HLR := n3_; have OV := n4_; have HB := n5_; clear n0_ n1_ n2_ n3_ n4_ n5_) | ((with_reducible refine gate_builtin (b := .append) (xs := #[.tmp 27, .tmp 35]) rfl ?_); at_builtin; refine Kd.R_append kre (w0 := w) w.heap.size rfl (.tmp 27) (.tmp 35) 130 110 (.agg #[(.int .i64 0), (.int .i64 0), (.slice none 0 0)]) 40 rfl Try.underlying130 info110 rfl (by decide) (by omega) _ res ⟨q, 1, Aj, l.length, cj⟩ [.int .i64 q, .int .i64 1, .slice Aj l.length cj] (fun _ => True) (fun _ => False) rfl rfl ?aP (fun _ hk => hk.elim) (fun _ _ => trivial) ?aO ?aB ?aS ?aL ?_; (case aP => exact kre_M _ _ _ ⟨q, 1, Aj, l.length, cj⟩); (case aO => exact Kd.pR HR.out); (case aB => exact (bb_ HB.out)); (case aS => exact bz_ (bb_ HB.out)); (case aL => have := HACC.out; omega); intro v36 w36 ho hb hg hat; have n0_ := ak_ (blk_grown (pk BK6.out) hg (Kd.R_ne HR.out BK6.out (by decide))); have n1_ := ak_ (blk_grown (pk BLS.out) hg (Kd.R_ne HR.out BLS.out (by decide))); have n2_ := ak_ (Kd.S_over' (Kd.pS HLR.out) (Kd.R_typed HR.out) (by decide) hg); have n3_ := ak_ (Kd.R_over' (Kd.pR OV.out) (Kd.R_typed HR.out) (by decide) hg); have n4_ := ak_ (hb); have n5_ := ak_ (ho); clear BK6 BLS HLR OV HB HR hg hat hb ho; have BK6 := n0_; have BLS := n1_; have HLR := n2_; have OV := n3_; have HB := n4_; have HR := n5_; clear n0_ n1_ n2_ n3_ n4_ n5_))
   go_roundg (ls.length - (j + 1))
   case measure => have := HJ.out; have := HJJ.out; omega
   case rel => exact ⟨j + 1, _, _, (by first | rfl | (simp; done)), ⟨⟨by have := HJJ.out; omega, Nat.le_refl _, by rw [List.length_append, HJ.out.2.2]; rfl⟩⟩, H2, HER2, ⟨Kd.pR HR.out⟩, ⟨Kd.pS HLR.out⟩, ⟨by first | exact .inr ⟨rfl, pk BLS.out⟩ | exact .inr ⟨trivial, pk BLS.out⟩⟩, ⟨pk BK6.out⟩, ⟨Kd.pR OV.out⟩, ⟨(bb_ HB.out)⟩⟩
  ·have j1 : decide ((j : Int) < (ls.length : Int)) = false := decide_eq_false (by omega)
   have j1n : decide (j < ls.length) = false := decide_eq_false hj
   have h := H.out
   rw [List.drop_of_length_le (by omega)] at h
   have HES := ak_ (show acc = es from Option.some.inj (show some acc = some es from h))
   clear h H hj
   go_wp2
   first | go_ret | go_ret2
   refine ⟨_, rfl, ?_, (bb_ HB.out)⟩
   rw [← HES.out]
   rcases HAL.out with h0 | ⟨rfl, hbl⟩
   ·have ha : acc = [] := List.eq_nil_of_length_eq_zero (by have := HJ.out; omega)
    have hr : res = [] := List.eq_nil_of_length_eq_zero (by rw [← HER.out.1, ha]; rfl)
    have h2 := HR.out
    rw [hr] at h2
    rw [ha]
    exact lead_shut (zs := []) (f := fun _ => 0) (okl := fun _ => False) (Kd.R_below h2 be_) trivial List.Pairwise.nil (fun k hk => hk.elim)
   ·exact HER.out.shut (Kd.S_below HLR.out be_) (blk_below hbl be_) (Kd.R_below HR.out be_) (by decide)
attribute [local go_sem] run_store_fn_
def grN (n : Nat) : Int := wrap64 (2 * 2 ^ min n 64)
theorem impl_Keep_graph.calls (th : Int) (m : Nat) (Ad : Option Addr) (cd0 : Nat) (ds : List (List Int)) (se : Int) (w : World) (hth : (m : Int) = th) :
  Calls Try.prog 108 #[.agg #[.int .i64 th, .slice Ad ds.length cd0, .int .i64 se]] w fun e w' => ∃ Bc : Nat, e = .returned (.agg #[.int .i64 (grN m), .func (.func 141) #[] #[.pointer (some ⟨Bc, 0, none⟩)]]) ∧
   (w'.heap[Bc]? = some (.cells #[.int .i64 th, .slice Ad ds.length cd0, .int .i64 se] 52 (0, 0))) ∧ Below w.heap.size w w' := by
 subst hth
 have hu := Try.underlying52
 have hu2 := Try.underlying68
 have HB := ak_ (Below.refl w.heap.size w)
 have hn0 : ¬ ((m : Int) < 0) := by omega
 go_enter Try.func108, Try.ntmps108
 go_upto_region 1 with (first | ((with_reducible refine gate_dst (N := 1) rfl ?_); refine bx_ 1 #[.int .i64 (m : Int), .slice Ad ds.length cd0, .int .i64 se] 52 ?_; intro gb2 hg w2 hbox hb; have nb_ := ak_ (bs_ (bb_ HB.out) hb); have nc_ := ak_ hbox; have nd_ := ak_ ((by rw [hg]; exact (bz_ (bb_ HB.out)) : w.heap.size ≤ gb2)); clear HB hb hbox hg; have HB := nb_; have BK2 := nc_; have GE2 := nd_; clear nb_ nc_ nd_; have hz2_0 := (blk_cell BK2.out 0); have hf2_0 := (blk_frozen BK2.out 0); simp at hz2_0; have hz2_1 := (blk_cell BK2.out 1); have hf2_1 := (blk_frozen BK2.out 1); simp at hz2_1; have hz2_2 := (blk_cell BK2.out 2); have hf2_2 := (blk_frozen BK2.out 2); simp at hz2_2; skip) | ((with_reducible refine gate_dst (N := 2) rfl ?_); refine bx_ 2 #[.int .i64 0, .nilFunc] 68 ?_; intro gb4 hg w4 hbox hb; have n0_ := ak_ (blk_below (pk BK2.out) hb); have m0_ := ak_ ((by rw [hg]; exact Nat.ne_of_lt (blk_lt (pk BK2.out)) : gb2 ≠ gb4)); have nb_ := ak_ (bs_ (bb_ HB.out) hb); have nc_ := ak_ hbox; have nd_ := ak_ ((by rw [hg]; exact (bz_ (bb_ HB.out)) : w.heap.size ≤ gb4)); clear HB hb hbox hg; clear BK2; have BK2 := n0_; have NE2_4 := m0_; have HB := nb_; have BK4 := nc_; have GE4 := nd_; clear nb_ nc_ nd_ n0_ m0_; have hz4_0 := (blk_cell BK4.out 0); have hf4_0 := (blk_frozen BK4.out 0); simp at hz4_0; have hz4_1 := (blk_cell BK4.out 1); have hf4_1 := (blk_frozen BK4.out 1); simp at hz4_1; skip))
 have hq0 := blk_cell BK2.out 0
 simp at hq0
 have B41 := blk_put (cs' := #[.int .i64 (wrap64 (2 * 2 ^ min m 64)), .func (.func 141) #[] #[.pointer (some ⟨gb2, 0, none⟩)]]) (blk_put (cs' := #[.int .i64 (wrap64 (2 * 2 ^ min m 64)), .nilFunc]) BK4.out 0 (.int .i64 (wrap64 (2 * 2 ^ min m 64))) rfl) 1 (.func (.func 141) #[] #[.pointer (some ⟨gb2, 0, none⟩)]) rfl
 have B21 := blk_far (p := ⟨gb4, 1, none⟩) (blk_far (p := ⟨gb4, 0, none⟩) BK2.out NE2_4.out (.int .i64 (wrap64 (2 * 2 ^ min m 64)))) NE2_4.out (.func (.func 141) #[] #[.pointer (some ⟨gb2, 0, none⟩)])
 have HB1 := below_set (v := (.func (.func 141) #[] #[.pointer (some ⟨gb2, 0, none⟩)])) (j := 1) (below_set (v := (.int .i64 (wrap64 (2 * 2 ^ min m 64)))) (j := 0) HB.out GE4.out) GE4.out
 have HF := ak_ (And.intro B41 (And.intro B21 HB1))
 clear B41 B21 HB1
 go_wp2
 refine bodyPost_ret (results_cell_row rfl _ _ gb4 68 #[.int .i64 (wrap64 (2 * 2 ^ min m 64)), .func (.func 141) #[] #[.pointer (some ⟨gb2, 0, none⟩)]] (0, 0) _ rfl HF.out.1 Try.underlying68 rfl (by kernel_rfl)) rfl ?_
 exact ⟨gb2, rfl, HF.out.2.1, HF.out.2.2⟩
theorem GOut.up {fo : Nat} {cb : Array Value} {N : Int} {E : Int → List S110} {w w0 : World} (h : GOut fo cb N E w) (hb : Below w.heap.size w w0) : GOut fo cb N E w0 := fun W s hW => h W s (below_then hb hb.size hW)
theorem frRun_congr {E E' : Int → List S110} {N : Int} (h : ∀ s, 0 ≤ s → s < N → E s = E' s) : ∀ k d i dist w, frRun E N k d i dist w = frRun E' N k d i dist w
 | 0, _, _, _, _ => rfl
 | k + 1, d, i, dist, w => by
  rw [frRun.eq_2, frRun.eq_2]
  by_cases hs : 0 ≤ rdOf 0 (w.getD d []) (i : Int) ∧ rdOf 0 (w.getD d []) (i : Int) < N
  ·rw [h _ hs.1 hs.2]
   simp only [frRun_congr h k]
  ·have e1 : ¬ (0 ≤ rdOf 0 (w.getD d []) (i : Int) ∧ rdOf 0 (w.getD d []) (i : Int) < N ∧ i < 1000000 ∧ d < 1000000 ∧ (E (rdOf 0 (w.getD d []) (i : Int))).length < 1000000) := fun hc => hs ⟨hc.1, hc.2.1⟩
   have e2 : ¬ (0 ≤ rdOf 0 (w.getD d []) (i : Int) ∧ rdOf 0 (w.getD d []) (i : Int) < N ∧ i < 1000000 ∧ d < 1000000 ∧ (E' (rdOf 0 (w.getD d []) (i : Int))).length < 1000000) := fun hc => hs ⟨hc.1, hc.2.1⟩
   simp only [if_neg e1, if_neg e2, frRun_congr h k]
def grE (g : Int → Option (List S110)) : Int → List S110 := fun s => (g s).getD []
def grAll (g : Int → Option (List S110)) (N : Int) : Bool := (List.range N.toNat).all fun i => (g (i : Int)).isSome
theorem grAll_at {g : Int → Option (List S110)} {N : Int} (h : grAll g N = true) (s : Int) (s0 : 0 ≤ s) (s1 : s < N) : g s = some (grE g s) := by
 have h2 := List.all_eq_true.1 h s.toNat (List.mem_range.2 (by omega))
 rw [Int.toNat_of_nonneg s0] at h2
 unfold grE
 cases hg : g s with
 | none => rw [hg] at h2; exact absurd h2 (by simp)
 | some r => rfl
theorem grAll_le {g g' : Int → Option (List S110)} {N : Int} (hg : ∀ s, LeO (g s) (g' s)) (h : grAll g N = true) : grAll g' N = true ∧ ∀ s, 0 ≤ s → s < N → grE g s = grE g' s := by
 have h2 : ∀ s, 0 ≤ s → s < N → g' s = some (grE g s) := fun s s0 s1 => hg s _ (grAll_at h s s0 s1)
 refine ⟨List.all_eq_true.2 (fun i hi => ?_), fun s s0 s1 => ?_⟩
 ·rw [h2 i (by omega) (by rw [List.mem_range] at hi; omega)]; rfl
 ·show grE g s = (g' s).getD []
  rw [h2 s s0 s1]; rfl
def frG (g : Int → Option (List S110)) (k : Nat) (N : Int) (starts : List Int) : Option (List Int) := if grAll g N = true then impl_graph_int_from.f (grE g) k N starts else none
theorem GOut.of {fo : Nat} {cb : Array Value} {N : Int} {g : Int → Option (List S110)} {w0 : World} (ha : grAll g N = true)
  (h : ∀ (W : World) (s : Int) (es : List S110), Below w0.heap.size w0 W → g s = some es → Calls Try.prog fo (#[.int .i64 s] ++ cb) W fun e w' => ∃ v : Value, e = .returned v ∧ Kd.S k110 110 w' W.heap.size (fun _ => True) v es ∧ Below W.heap.size W w') : GOut fo cb N (grE g) w0 :=
 fun W s hW s0 s1 => h W s _ hW (grAll_at ha s s0 s1)
def foRun (E : Int → List S110) (N : Int) (dist : List Int) : Nat → Int → List (List Int) → Option (List (List Int))
 | 0, _, _ => none
 | k + 1, s, acc => if 0 ≤ s ∧ s < (dist.length : Int) then (if rdOf 0 dist s > 0 then (impl_graph_int_best.f E N s dist).bind fun es => es.head?.bind fun e => if acc.length < 1000000 then foRun E N dist k e.f0 (acc ++ [e.f2]) else none else some acc) else none
theorem foRun_congr {E E' : Int → List S110} {N : Int} (h : ∀ s, 0 ≤ s → s < N → E s = E' s) (dist : List Int) : ∀ k s acc, foRun E N dist k s acc = foRun E' N dist k s acc
 | 0, _, _ => rfl
 | k + 1, s, acc => by
  have e : impl_graph_int_best.f E N s dist = impl_graph_int_best.f E' N s dist := by
   unfold impl_graph_int_best.f
   by_cases hs : 0 ≤ s ∧ s < N
   ·rw [h s hs.1 hs.2]
   ·rw [if_neg (fun hc => hs ⟨hc.1, hc.2.1⟩), if_neg (fun hc => hs ⟨hc.1, hc.2.1⟩)]
  rw [foRun.eq_2, foRun.eq_2, e]
  simp only [foRun_congr h dist k]
def impl_graph_int_first.f (E : Int → List S110) (k : Nat) (N : Int) (s : Int) (dist : List Int) : Option (List (List Int)) := foRun E N dist k s []
def impl_graph_int_first.T4 : Bool × List (List Nat × List Nat) := (true, [([], []), ([], []), ([1], [1]), ([2], [2]), ([0, 3], [0, 3]), ([], []), ([5], [5]), ([4, 4, 0, 1, 2, 3, 4], [0, 4]), ([6, 7, 0, 1, 2, 3, 4, 5, 6, 7], [6])])
def impl_graph_int_first.B4 : List Nat := [0, 0, 2, 6, 15, 0, 32, 31, 255]
theorem impl_graph_int_first.T4_ : rtab .any (opsOf Try.f76 4) = impl_graph_int_first.T4 := by kernel_rfl
theorem impl_graph_int_first.B4_ : waitsOk impl_graph_int_first.T4.2 impl_graph_int_first.B4 = true := by kernel_rfl
theorem impl_graph_int_first.calls (fo : Nat) (cb : Array Value) (N : Int) (E : Int → List S110) (w w0 : World) (ee : ∀ args w, (callFunc fo args).run Try.prog w = .ok (.enter fo args) w) (hE : GOut fo cb N E w) (hb0 : Below w.heap.size w w0)
  (k : Nat) (s : Int) (Ad : Option Addr) (cd : Nat) (dist : List Int) (r : List (List Int)) (hd : (Kd.int .i64).C w0 Ad dist.length dist) (h : impl_graph_int_first.f E k N s dist = some r) :
  Calls Try.prog 76 #[.agg #[.int .i64 N, .func (.func fo) #[] cb], .int .i64 s, .slice Ad dist.length cd] w0 fun e w' => ∃ v0_ : Value, e = .returned v0_ ∧ Kd.S (Kd.slice 3 (Kd.int .i64)) 29 w' w0.heap.size (fun _ => True) v0_ r ∧ Below w0.heap.size w0 w' := by
 have hu := Try.underlying68
 have hu2 := Try.underlying110
 unfold impl_graph_int_first.f at h
 have HE := ak_ (hE.up hb0)
 have HD := ak_ hd
 have H := ak_ h
 have HB := ak_ (Below.refl w0.heap.size w0)
 clear h hE hb0 hd
 go_enter Try.func76, Try.ntmps76
 go_wp2_with (first | ((with_reducible refine gate_dst (N := 3) rfl ?_); refine box_event ?hg (N := 3) ?hd (cs := #[.int .i64 N, .func (.func fo) #[] cb]) (t := 68) ?hr ?_; (case hd => rfl); (case hg => rfl); (case hr => go_simp <;> rfl); intro gb3 hg w3 hbox hb; have nb_ := ak_ (bs_ (bb_ HB.out) hb); have nc_ := ak_ hbox; have nd_ := ak_ ((by rw [hg]; exact (bz_ (bb_ HB.out)) : w0.heap.size ≤ gb3)); clear HB hb hbox hg; have HB := nb_; have BK3 := nc_; have GE3 := nd_; clear nb_ nc_ nd_; have hz3_0 := (blk_cell BK3.out 0); have hf3_0 := (blk_frozen BK3.out 0); simp at hz3_0; have hz3_1 := (blk_cell BK3.out 1); have hf3_1 := (blk_frozen BK3.out 1); simp at hz3_1; skip))
 go_loopg [1, 7] k (fun gg v1 v7 wr => ∃ (s : Int) (acc : List (List Int)) (A : Option Addr) (c : Nat), v1 = .int .i64 s ∧ v7 = .slice A acc.length c ∧ Aside0 (foRun E N dist gg s acc = some r) ∧ Aside0 (Kd.S (Kd.slice 3 (Kd.int .i64)) 29 wr w0.heap.size (fun _ => True) (.slice A acc.length c) acc) ∧ Aside0 (wr.heap[gb3]? = some (.cells #[.int .i64 N, .func (.func fo) #[] cb] 68 (0, 0))) ∧ Aside0 (Below w0.heap.size w0 wr))
 case atStart => exact ⟨s, [], some ⟨w3.heap.size, 0, none⟩, 0, rfl, rfl, H, ⟨gp_lit0 _ _ w3 (bz_ HB.out)⟩, ⟨ka_ (pk BK3.out) _⟩, ⟨(bb_ HB.out)⟩⟩
 case round =>
  clear H BK3 HB
  obtain ⟨s, acc, A, c, rfl, rfl, H, HO, BK3, HB⟩ := hrel
  cases gk with
  | zero => exact absurd H.out (by simp [foRun])
  | succ m =>
   have h := H.out
   simp only [foRun] at h
   by_cases hs : 0 ≤ s ∧ s < (dist.length : Int)
   rotate_left
   ·rw [if_neg hs] at h; exact absurd h (by simp)
   rw [if_pos hs] at h
   have hD := HD.out
   obtain ⟨ad, rfl, hx0⟩ := Kd.at_int hD s hs.1 hs.2
   have hx := pw_cell_below HB.out hx0
   have e0 : rd dist s = rdOf 0 dist s := rfl
   rw [e0] at hx
   have p0 := eq_true hs.1
   have p1 := eq_true hs.2
   clear hx0 e0 hD hs
   by_cases hv : rdOf 0 dist s > 0
   ·have v1 : decide (rdOf 0 dist s > 0) = true := decide_eq_true hv
    have v2 : decide (0 < rdOf 0 dist s) = true := decide_eq_true hv
    rw [if_pos hv] at h
    obtain ⟨es, h1, h⟩ := Option.bind_eq_some_iff.mp h
    obtain ⟨e, h2, h⟩ := Option.bind_eq_some_iff.mp h
    by_cases hac : acc.length < 1000000
    rotate_left
    ·rw [if_neg hac] at h; exact absurd h (by simp)
    rw [if_pos hac] at h
    have h3 : es[0]? = some e := by rw [← List.head?_eq_getElem?]; exact h2
    have hl0 : 0 < es.length := (List.getElem?_eq_some_iff.1 h3).1
    have HBEST := ak_ fun (W' : World) (hb : Below w0.heap.size w0 W') => impl_graph_int_best.calls fo cb N E w0 W' ee HE.out hb s (some ad) cd dist es (Kd.C_below HD.out hb) h1
    have HL0 := ak_ hl0
    have HGE := ak_ (show es.getD (0 : Int).toNat z110 = e from by rw [List.getD_eq_getElem?_getD, show (0 : Int).toNat = 0 from rfl, h3]; rfl)
    have q1 : ((0 : Int) < (es.length : Int)) = True := eq_true (by omega)
    have q1n : (0 < es.length) = True := eq_true hl0
    have q1d : decide ((0 : Int) < (es.length : Int)) = true := decide_eq_true (by omega)
    have H2 := ak_ h
    have HAC := ak_ hac
    have hz3_0 := blk_cell BK3.out 0
    have hz3_1 := blk_cell BK3.out 1
    simp at hz3_0
    simp at hz3_1
    clear h h1 h2 h3 hac hv H hl0
    go_upto_region 4 with (first | (go_at_call 111; refine (HBEST.out _ HB.out).mono ?_; rintro e_ w18 ⟨v18, rfl, ho, hb⟩; obtain ⟨ge, ce, rfl, -, -, -⟩ := Kd.S_form ho HL0.out; obtain ⟨oki, cc, -, hM, hcell, -, -, -⟩ := Kd.S_elem ho z110 0 (Int.le_refl _) (by have := HL0.out; omega); rw [HGE.out] at hM; obtain ⟨v2_, hc_, hR⟩ := k110_openM hM; obtain ⟨A2, c2, rfl⟩ := Kd.R_slice hR; have he0 : w18.cell? ⟨ge, 0, none⟩ = some (.int .i64 e.f0) := hcell 0 _ (by rw [hc_]; rfl); have he1 : w18.cell? ⟨ge, 1, none⟩ = some (.int .i64 e.f1) := hcell 1 _ (by rw [hc_]; rfl); have he2 : w18.cell? ⟨ge, 2, none⟩ = some (.slice A2 e.f2.length c2) := hcell 2 _ (by rw [hc_]; rfl); have RL := ak_ (Kd.R_lower hR (bz_ HB.out)); have hO18 := Kd.S_below (Kd.S_mono (ok' := fun k_ => True ∧ ¬ some k_ = (Value.slice A2 e.f2.length c2).ownBlock) (Kd.S_bound HO.out) (fun k_ hk_ => ⟨trivial, fun e_ => by have h1_ := Kd.R_base hR k_ e_.symm; have := hk_.2.2.1; omega⟩)) hb; have HNE := ak_ (show ∀ k_, some k_ = (Value.slice A2 e.f2.length c2).ownBlock → some k_ ≠ (Value.slice A acc.length c).ownBlock from fun k_ h1_ h2_ => by obtain ⟨f_, hR_⟩ := hO18; exact (hR_.1 k_ h2_.symm).2 h1_); clear HO; have HO := ak_ hO18; have n0_ := ak_ (blk_below (pk BK3.out) hb); have n1_ := ak_ (below_then HB.out HB.out.size hb); clear BK3 HB hb ho hcell hc_ hR hM hO18 hz3_0 hz3_1; have BK3 := n0_; have HB := n1_; clear n0_ n1_))
    obtain ⟨w17, hw17⟩ : ∃ W, W = w18.alloc (.cells #[.int .i64 e.f0, .int .i64 e.f1, .slice A2 e.f2.length c2] 110) := ⟨_, rfl⟩
    have hb : Below w18.heap.size w18 w17 := (by rw [hw17]; exact ba_ (Below.refl _ _) _)
    have hbk : w17.heap[w18.heap.size]? = some (.cells #[.int .i64 e.f0, .int .i64 e.f1, .slice A2 e.f2.length c2] 110 (0, 0)) := (by rw [hw17]; exact blk_new w18 _)
    rw [← hw17]
    clear hw17 he0 he1 he2
    have n0_ := ak_ (blk_below BK3.out hb); have n1_ := ak_ (Kd.S_below HO.out hb); have n2_ := ak_ (Kd.R_below RL.out hb); have n3_ := ak_ (below_then HB.out HB.out.size hb); clear BK3 HO RL HB hb; have BK3 := n0_; have HO := n1_; have RL := n2_; have HB := n3_; clear n0_ n1_ n2_ n3_
    obtain ⟨gb8, hg8⟩ : ∃ g, g = w18.heap.size := ⟨_, rfl⟩
    rw [← hg8] at hbk ⊢
    have BK8 := ak_ hbk
    clear hbk hg8
    have n0_ := ak_ (k1_ BK3.out); have n1_ := ak_ (k1_ BK8.out); have n2_ := ak_ (Kd.S_drew HO.out); have n3_ := ak_ (Kd.R_drew RL.out); have n4_ := ak_ (b1_ HB.out); clear BK3 BK8 HO RL HB; have BK3 := n0_; have BK8 := n1_; have HO := n2_; have RL := n3_; have HB := n4_; clear n0_ n1_ n2_ n3_ n4_
    refine start_ (n := 9) (S := fun w' => w'.cell? ⟨gb8, 0, none⟩ = some (.int .i64 e.f0) ∧ w'.cell? ⟨gb8, 2, none⟩ = some (.slice A2 e.f2.length c2)) (ds := []) (mb_ 9 0) (by kernel_rfl) rfl rfl ⟨(blk_cell BK8.out 0).trans rfl, (blk_cell BK8.out 2).trans rfl⟩ (fun hHeld => ?_); refine with_tabW impl_graph_int_first.T4_ impl_graph_int_first.B4_ (fun HT_ HW_ => ?_)
    generalize w17.drew = w9 at BK3 BK8 HO RL HB hHeld ⊢
    refine pu_ 0 21 9 1 ?_
    refine pu_ 1 22 9 3 ?_
    refine tk_ 2 23 9 7 ?_ (hy := by rintro w' ⟨s0, s1⟩; go_simp; with_reducible rfl)
    refine pu_ 5 26 9 39 ?_
    refine tk_ 6 27 9 103 ?_ (hy := by rintro w' ⟨s0, s1⟩; go_simp; with_reducible rfl)
    refine on_ 3 24 9 111 (fun K hK => ?_)
    refine value_ (w1 := ?_) (v := ?_) (by rfl) rfl ?_ ?_
    rotate_left 2
    ·go_simp
     constructor
     ·rfl
     ·rfl
    refine hK.out _ _ ⟨(blk_cell (ka_ BK8.out _) 0).trans rfl, (blk_cell (ka_ BK8.out _) 2).trans rfl⟩ (fun hHeld => ?_)
    clear hK K
    refine nm_ ?_
    refine on_ 4 25 9 127 (fun K hK => ?_)
    refine Kd.S_append_step (Kd.slice 3 (Kd.int .i64)) (w0 := w0) w0.heap.size (by rfl) (.tmp 21) (.tmp 24) 47 29 (.slice none 0 0) 24 rfl Try.underlying47 info29 rfl (by decide) (by omega) (.slice A acc.length c) acc e.f2 [.slice A2 e.f2.length c2] (fun _ => True) (fun k_ => some k_ = (Value.slice A2 e.f2.length c2).ownBlock) rfl rfl ?aP ?aK (fun _ _ => trivial) ?aO ?aB ?aS ?aL ?_
    (case aP => exact ⟨_, rfl, Kd.R_tight rfl (Kd.pR RL.out)⟩)
    (case aK => exact fun k_ hk_ => ⟨trivial, HNE.out k_ hk_⟩)
    (case aO => exact Kd.pS HO.out)
    (case aB => exact HB.out)
    (case aS => exact bz_ HB.out)
    (case aL => have := HAC.out; omega)
    intro v9 w19 ho hb hg hat
    obtain ⟨Ao, co, rfl⟩ := Kd.S_slice ho
    have BX := ak_ (blk_grown (pk BK8.out) hg (Kd.S_ne HO.out BK8.out (by decide))); have B3 := ak_ (blk_grown (pk BK3.out) hg (Kd.S_ne HO.out BK3.out (by decide))); clear BK3 BK8 HO HB RL hg hat; have BK8 := BX; have BK3 := B3; have HO := ak_ ho; have HB := ak_ hb; clear BX B3 ho hb
    refine hK.out _ _ ⟨(blk_cell BK8.out 0).trans rfl, (blk_cell BK8.out 2).trans rfl⟩ (fun hHeld => ?_)
    clear hK K
    refine nm_ ?_
    refine pu_ 7 7 9 255 ?_
    refine pu_ 8 1 9 511 ?_
    refine done_ (done_of HT_.out (by kernel_rfl)) ?_
    try go_wp2
    go_roundg m
    case measure => omega
    case rel => exact ⟨e.f0, acc ++ [e.f2], Ao, co, rfl, (by rw [List.length_append]; rfl), H2, ⟨Kd.pS HO.out⟩, ⟨pk BK3.out⟩, ⟨(bb_ HB.out)⟩⟩
   ·have v1 : decide (rdOf 0 dist s > 0) = false := decide_eq_false hv
    have v2 : decide (0 < rdOf 0 dist s) = false := decide_eq_false hv
    rw [if_neg hv] at h
    obtain rfl := Option.some.inj h
    clear h hv H
    go_wp2
    first | go_ret | go_ret2
    exact ⟨_, rfl, Kd.S_below HO.out be_, (bb_ HB.out)⟩
def fiG (g : Int → Option (List S110)) (k : Nat) (N : Int) (s : Int) (dist : List Int) : Option (List (List Int)) := if grAll g N = true then impl_graph_int_first.f (grE g) k N s dist else none
attribute [local go_sem] run_store_fn_
theorem gr_typ {W : World} {a b t u : Nat} {cs ds : Array Value} (h : W.heap[a]? = some (.cells cs t (0, 0))) (h2 : W.heap[b]? = some (.cells ds u (0, 0))) (ht : t ≠ u) : a ≠ b := by
 rintro rfl
 rw [h] at h2
 injection h2 with h2
 injection h2 with _ h2
 exact ht h2
def impl_Keep_costs.f (k : Nat) (th : Int) (ds : List (List Int)) (se : Int) : Option (List Int × Bool) := (impl_last.f th).bind fun q => (frG (kpG k th ds se) k (grN th.toNat) [q]).bind fun dist => if 0 < dist.length then some (dist, decide (0 ≤ rdOf 0 dist 0)) else none
def impl_Keep_costs.T2 : Bool × List (List Nat × List Nat) := (true, [([], []), ([], []), ([1], [1]), ([2], [2]), ([3], [3]), ([0, 4, 3], [0, 4]), ([5, 5, 0, 1, 2, 3, 4, 5], [5])])
def impl_Keep_costs.B2 : List Nat := [0, 0, 2, 6, 14, 31, 63]
theorem impl_Keep_costs.T2_ : rtab .any (opsOf Try.f67 2) = impl_Keep_costs.T2 := by kernel_rfl
theorem impl_Keep_costs.B2_ : waitsOk impl_Keep_costs.T2.2 impl_Keep_costs.B2 = true := by kernel_rfl
def impl_Keep_costs.T3 : Bool × List (List Nat × List Nat) := (true, [([], []), ([], []), ([], []), ([2], [2]), ([3], [3]), ([4], [4]), ([0, 0], [0]), ([1, 6, 0, 1, 6], [1]), ([5, 7, 0, 1, 2, 3, 4, 5, 6, 7], [5])])
def impl_Keep_costs.B3 : List Nat := [0, 0, 0, 4, 12, 28, 1, 67, 255]
theorem impl_Keep_costs.T3_ : rtab .any (opsOf Try.f67 3) = impl_Keep_costs.T3 := by kernel_rfl
theorem impl_Keep_costs.B3_ : waitsOk impl_Keep_costs.T3.2 impl_Keep_costs.B3 = true := by kernel_rfl
theorem impl_Keep_costs.calls (k : Nat) (th : Int) (Ad : Option Addr) (cd0 : Nat) (ds : List (List Int)) (se : Int) (dist : List Int) (b : Bool) (w : World) (hth : 0 ≤ th) (hkd : Kd.C (Kd.slice 3 (Kd.int .i64)) w Ad ds.length ds) (hdc : ds.length ≤ cd0) (h : impl_Keep_costs.f k th ds se = some (dist, b)) :
  Calls Try.prog 67 #[.agg #[.int .i64 th, .slice Ad ds.length cd0, .int .i64 se]] w fun e w' => ∃ (fo : Nat) (cb : Array Value) (gd cd : Nat), e = .returned (.tuple #[.agg #[.int .i64 (grN th.toNat), .func (.func fo) #[] cb], .slice (some ⟨gd, 0, none⟩) dist.length cd, .bool b]) ∧
   (∀ args w, (callFunc fo args).run Try.prog w = .ok (.enter fo args) w) ∧ grAll (kpG k th ds se) (grN th.toNat) = true ∧ GOut fo cb (grN th.toNat) (grE (kpG k th ds se)) w' ∧ Kd.R (Kd.int .i64) 3 w' w.heap.size (fun _ => True) (.slice (some ⟨gd, 0, none⟩) dist.length cd) dist ∧ Below w.heap.size w w' := by
 have hu := Try.underlying52
 have hu2 := Try.underlying68
 unfold impl_Keep_costs.f at h
 obtain ⟨q, h1, h⟩ := Option.bind_eq_some_iff.mp h
 obtain ⟨dist', h2, h⟩ := Option.bind_eq_some_iff.mp h
 by_cases hd : 0 < dist'.length
 rotate_left
 ·rw [if_neg hd] at h; exact absurd h (by simp)
 rw [if_pos hd] at h
 obtain ⟨rfl, rfl⟩ : dist' = dist ∧ decide (0 ≤ rdOf 0 dist' 0) = b := by simpa using h
 unfold frG at h2
 by_cases ha : grAll (kpG k th ds se) (grN th.toNat) = true
 rotate_left
 ·rw [if_neg ha] at h2; exact absurd h2 (by simp)
 rw [if_pos ha] at h2
 have A1 := ak_ fun (W : World) (hb : Below w.heap.size w W) => impl_Keep_graph.calls th th.toNat Ad cd0 ds se W (by omega)
 have A2 := ak_ fun (W : World) => impl_last.calls th q W h1
 have HE := ak_ fun (W : World) (hb : Below w.heap.size w W) (Bc : Nat) (hB : W.heap[Bc]? = some (.cells #[.int .i64 th, .slice Ad ds.length cd0, .int .i64 se] 52 (0, 0))) => (GOut.of ha (fun W' s es hW' hs => impl_Keep_graph.calls_1 k Bc th Ad cd0 ds se s es W' (blk_below hB hW') (Kd.C_below hkd (bs_ hb hW')) hdc hs) : GOut 141 #[.pointer (some ⟨Bc, 0, none⟩)] (grN th.toNat) (grE (kpG k th ds se)) W)
 have A3 := ak_ fun (W W0 : World) (cb : Array Value) (hE : GOut 141 cb (grN th.toNat) (grE (kpG k th ds se)) W) (bs cs : Nat) (hb0 : Below W.heap.size W W0) (hs : Kd.R (Kd.int .i64) 3 W0 W.heap.size (fun _ => True) (.slice (some ⟨bs, 0, none⟩) [q].length cs) [q]) => impl_graph_int_from.calls 141 cb (grN th.toNat) (grE (kpG k th ds se)) W W0 (enters_of Try.func141 (by kernel_rfl) rfl) hE k [q] dist' bs cs hb0 hs h2
 have HA := ak_ ha
 have HD0 := ak_ hd
 have HB := ak_ (Below.refl w.heap.size w)
 have hc0 : (0 : Int) < (dist'.length : Int) := by omega
 have hcn : (0 < dist'.length) = True := eq_true hd
 clear h h1 h2 hd ha hth hkd hdc
 go_enter Try.func67, Try.ntmps67
 go_upto_region 1 with (first | ((with_reducible refine gate_dst (N := 1) rfl ?_); refine bx_ 1 #[.int .i64 th, .slice Ad ds.length cd0, .int .i64 se] 52 ?_; intro gb2 hg w2 hbox hb; have nb_ := ak_ (bs_ (bb_ HB.out) hb); have nc_ := ak_ hbox; have nd_ := ak_ ((by rw [hg]; exact (bz_ (bb_ HB.out)) : w.heap.size ≤ gb2)); clear HB hb hbox hg; have HB := nb_; have BK2 := nc_; have GE2 := nd_; clear nb_ nc_ nd_; have hz2_0 := (blk_cell BK2.out 0); have hf2_0 := (blk_frozen BK2.out 0); simp at hz2_0; have hz2_1 := (blk_cell BK2.out 1); have hf2_1 := (blk_frozen BK2.out 1); simp at hz2_1; have hz2_2 := (blk_cell BK2.out 2); have hf2_2 := (blk_frozen BK2.out 2); simp at hz2_2; skip) | ((with_reducible refine gate_dst (N := 2) rfl ?_); refine bx_ 2 #[.int .i64 0, .nilFunc] 68 ?_; intro gb4 hg w4 hbox hb; have n0_ := ak_ (blk_below (pk BK2.out) hb); have m0_ := ak_ ((by rw [hg]; exact Nat.ne_of_lt (blk_lt (pk BK2.out)) : gb2 ≠ gb4)); have nb_ := ak_ (bs_ (bb_ HB.out) hb); have nc_ := ak_ hbox; have nd_ := ak_ ((by rw [hg]; exact (bz_ (bb_ HB.out)) : w.heap.size ≤ gb4)); clear HB hb hbox hg; clear BK2; have BK2 := n0_; have NE2_4 := m0_; have HB := nb_; have BK4 := nc_; have GE4 := nd_; clear nb_ nc_ nd_ n0_ m0_; have hz4_0 := (blk_cell BK4.out 0); have hf4_0 := (blk_frozen BK4.out 0); simp at hz4_0; have hz4_1 := (blk_cell BK4.out 1); have hf4_1 := (blk_frozen BK4.out 1); simp at hz4_1; skip))
 have hq0 := blk_cell BK2.out 0
 have hq1 := blk_cell BK2.out 1
 have hq2 := blk_cell BK2.out 2
 simp at hq0
 simp at hq1
 simp at hq2
 go_upto_region 2 with (first | (go_at_call 108; refine (A1.out _ (bb_ HB.out)).mono ?_; rintro e w11 ⟨Bc, rfl, hB, hb⟩; have HK := ak_ hB; clear hB A1; have n0_ := ak_ (blk_below (pk BK2.out) hb); have n1_ := ak_ (blk_below (pk BK4.out) hb); have n2_ := ak_ (bs_ (bb_ HB.out) hb); clear BK2 BK4 HB hb; have BK2 := n0_; have BK4 := n1_; have HB := n2_; clear n0_ n1_ n2_) | ((with_reducible refine gate_dst (N := 5) rfl ?_); refine bx_ 5 #[.int .i64 0, .nilFunc] 68 ?_; intro gb7 hg w7 hbox hb; have n0_ := ak_ (blk_below (pk BK2.out) hb); have m0_ := ak_ ((by rw [hg]; exact Nat.ne_of_lt (blk_lt (pk BK2.out)) : gb2 ≠ gb7)); have n1_ := ak_ (blk_below (pk BK4.out) hb); have m1_ := ak_ ((by rw [hg]; exact Nat.ne_of_lt (blk_lt (pk BK4.out)) : gb4 ≠ gb7)); have nb_ := ak_ (bs_ (bb_ HB.out) hb); have nc_ := ak_ hbox; have nd_ := ak_ ((by rw [hg]; exact (bz_ (bb_ HB.out)) : w.heap.size ≤ gb7)); have nk_ := ak_ (show w7.heap[Bc]? = some (.cells #[.int .i64 th, .slice Ad ds.length cd0, .int .i64 se] 52 (0, 0)) from blk_below (pk HK.out) hb); clear HB hb hbox hg HK; have HK := nk_; clear nk_; clear BK2 BK4; have BK2 := n0_; have NE2_7 := m0_; have BK4 := n1_; have NE4_7 := m1_; have HB := nb_; have BK7 := nc_; have GE7 := nd_; clear nb_ nc_ nd_ n0_ m0_ n1_ m1_; have hz7_0 := (blk_cell BK7.out 0); have hf7_0 := (blk_frozen BK7.out 0); simp at hz7_0; have hz7_1 := (blk_cell BK7.out 1); have hf7_1 := (blk_frozen BK7.out 1); simp at hz7_1; skip))
 have B71 := ak_ (blk_put (cs' := #[.int .i64 (grN th.toNat), .func (.func 141) #[] #[.pointer (some ⟨Bc, 0, none⟩)]]) (blk_put (cs' := #[.int .i64 (grN th.toNat), .nilFunc]) BK7.out 0 (.int .i64 (grN th.toNat)) rfl) 1 (.func (.func 141) #[] #[.pointer (some ⟨Bc, 0, none⟩)]) rfl)
 have B21 := ak_ (blk_far (p := ⟨gb7, 1, none⟩) (blk_far (p := ⟨gb7, 0, none⟩) BK2.out NE2_7.out (.int .i64 (grN th.toNat))) NE2_7.out (.func (.func 141) #[] #[.pointer (some ⟨Bc, 0, none⟩)]))
 have B41 := ak_ (blk_far (p := ⟨gb7, 1, none⟩) (blk_far (p := ⟨gb7, 0, none⟩) BK4.out NE4_7.out (.int .i64 (grN th.toNat))) NE4_7.out (.func (.func 141) #[] #[.pointer (some ⟨Bc, 0, none⟩)]))
 have K71 := ak_ (show ((w7.setCell ⟨gb7, 0, none⟩ (.int .i64 (grN th.toNat))).setCell ⟨gb7, 1, none⟩ (.func (.func 141) #[] #[.pointer (some ⟨Bc, 0, none⟩)])).heap[Bc]? = some (.cells #[.int .i64 th, .slice Ad ds.length cd0, .int .i64 se] 52 (0, 0)) from blk_far (blk_far HK.out (gr_typ HK.out BK7.out (by decide)) (.int .i64 (grN th.toNat))) (gr_typ HK.out BK7.out (by decide)) (.func (.func 141) #[] #[.pointer (some ⟨Bc, 0, none⟩)]))
 have HB1 := ak_ (below_set (v := (.func (.func 141) #[] #[.pointer (some ⟨Bc, 0, none⟩)])) (j := 1) (below_set (v := (.int .i64 (grN th.toNat))) (j := 0) HB.out GE7.out) GE7.out)
 generalize (w7.setCell ⟨gb7, 0, none⟩ (.int .i64 (grN th.toNat))).setCell ⟨gb7, 1, none⟩ (.func (.func 141) #[] #[.pointer (some ⟨Bc, 0, none⟩)]) = w8 at B71 B21 B41 K71 HB1 ⊢
 clear BK2 BK4 BK7 HB HK
 have BK2 := B21; have BK4 := B41; have BK7 := B71; have HB := HB1; have HK := K71
 clear B21 B41 B71 HB1 K71
 have n0_ := ak_ (k1_ BK2.out); have n1_ := ak_ (k1_ BK4.out); have n2_ := ak_ (k1_ BK7.out); have n3_ := ak_ (k1_ HK.out); have n4_ := ak_ (b1_ HB.out); clear BK2 BK4 BK7 HK HB; have BK2 := n0_; have BK4 := n1_; have BK7 := n2_; have HK := n3_; have HB := n4_; clear n0_ n1_ n2_ n3_ n4_
 refine start_ (n := 7) (S := fun w' => w'.cell? ⟨gb7, 0, none⟩ = some (.int .i64 (grN th.toNat)) ∧ w'.cell? ⟨gb7, 1, none⟩ = some (.func (.func 141) #[] #[.pointer (some ⟨Bc, 0, none⟩)]) ∧ w'.cell? ⟨gb2, 0, none⟩ = some (.int .i64 th)) (ds := []) (mb_ 7 0) (by kernel_rfl) rfl rfl ⟨(blk_cell BK7.out 0).trans rfl, (blk_cell BK7.out 1).trans rfl, (blk_cell BK2.out 0).trans rfl⟩ (fun hHeld => ?_); refine with_tabW impl_Keep_costs.T2_ impl_Keep_costs.B2_ (fun HT_ HW_ => ?_)
 generalize w8.drew = w9 at BK2 BK4 BK7 HK HB hHeld ⊢
 refine tk_ 0 9 7 1 ?_ (hy := by rintro w' ⟨s0, s1, s2⟩; go_simp; with_reducible rfl)
 refine pu_ 1 10 7 3 ?_
 refine tk_ 2 11 7 7 ?_ (hy := by rintro w' ⟨s0, s1, s2⟩; go_simp; with_reducible rfl)
 refine on_ 3 12 7 15 (fun K hK => ?_)
 refine goes_ Try.func85 (by kernel_rfl) rfl #[.int .i64 th] (by rfl) rfl rfl (by first | rfl | (simp only [map_toArray, map_cons, map_nil]; try rfl)) ?_
 refine (A2.out _).mono ?_
 rintro e_ w10 ⟨rfl, ⟨nd, rfl⟩⟩
 refine ⟨_, rfl, ?_⟩
 have n0_ := ak_ (kN_ BK2.out nd); have n1_ := ak_ (kN_ BK4.out nd); have n2_ := ak_ (kN_ BK7.out nd); have n3_ := ak_ (kN_ HK.out nd); have n4_ := ak_ (bN_ HB.out nd); clear BK2 BK4 BK7 HK HB; have BK2 := n0_; have BK4 := n1_; have BK7 := n2_; have HK := n3_; have HB := n4_; clear n0_ n1_ n2_ n3_ n4_
 generalize w9.drewN nd = w10 at BK2 BK4 BK7 HK HB ⊢
 refine hK.out _ _ ⟨(blk_cell BK7.out 0).trans rfl, (blk_cell BK7.out 1).trans rfl, (blk_cell BK2.out 0).trans rfl⟩ (fun hHeld => ?_)
 clear hK K
 refine nm_ ?_
 refine on_ 4 13 7 31 (fun K hK => ?_)
 refine Kd.R_lit_step (Kd.int .i64) w10.heap.size 3 ?hg (N := 13) ?hd (xs := [q]) (inner := [.int .i64 q]) (ok := fun _ => True) (okp := fun _ => True) ?hr ?hp (fun _ hk => hk) trivial (Below.refl w10.heap.size w10) (Nat.le_refl _) (by simp) ?_; (case hd => rfl); (case hg => rfl); (case hr => go_simp <;> rfl); (case hp => exact (Reps.one (show Kd.M (Kd.int .i64) _ _ _ q [.int .i64 q] from rfl) (Reps.none _ _)))
 intro s2 w11 ho0 hb0 hg_ hnew_
 clear hg_ hnew_
 obtain ⟨bs, cs, rfl, -, -, -⟩ := Kd.R_form ho0 (by simp)
 have HS := ak_ ho0
 have HB11 := ak_ hb0
 have HB10 := ak_ HB.out; have B10 := ak_ (And.intro BK2.out (And.intro BK4.out BK7.out)); have HE2 := ak_ (HE.out w10 HB.out Bc HK.out)
 have n0_ := ak_ (blk_below BK2.out hb0); have n1_ := ak_ (blk_below BK4.out hb0); have n2_ := ak_ (blk_below BK7.out hb0); have n3_ := ak_ (bs_ HB.out hb0); clear BK2 BK4 BK7 HB hb0 ho0; have BK2 := n0_; have BK4 := n1_; have BK7 := n2_; have HB := n3_; clear n0_ n1_ n2_ n3_
 refine hK.out _ _ ⟨(blk_cell BK7.out 0).trans rfl, (blk_cell BK7.out 1).trans rfl, (blk_cell BK2.out 0).trans rfl⟩ (fun hHeld => ?_)
 clear hK K
 refine nm_ ?_
 refine on_ 5 14 7 63 (fun K hK => ?_)
 refine goes_ Try.func84 (by kernel_rfl) rfl #[.agg #[.int .i64 (grN th.toNat), .func (.func 141) #[] #[.pointer (some ⟨Bc, 0, none⟩)]], .slice (some ⟨bs, 0, none⟩) [q].length cs] (by rfl) rfl rfl (by first | rfl | (simp only [map_toArray, map_cons, map_nil]; try rfl)) ?_
 refine (A3.out w10 w11 _ HE2.out bs cs HB11.out HS.out).mono ?_
 rintro e_ w12 ⟨v12, rfl, hdi, hb⟩
 refine ⟨_, rfl, ?_⟩
 obtain ⟨gd, cd, rfl, -, -, -⟩ := Kd.R_form hdi HD0.out
 have HD := ak_ (Kd.R_lower hdi (bz_ HB10.out))
 have n0_ := ak_ (blk_below B10.out.1 hb); have n1_ := ak_ (blk_below B10.out.2.1 hb); have n2_ := ak_ (blk_below B10.out.2.2 hb); have n3_ := ak_ (blk_below HK.out hb); have n4_ := ak_ (bs_ HB10.out hb); clear BK2 BK4 BK7 HE2 HK HB HS HB11 HB10 hdi hb B10; have BK2 := n0_; have BK4 := n1_; have BK7 := n2_; have HK := n3_; have HB := n4_; clear n0_ n1_ n2_ n3_ n4_
 refine hK.out _ _ ⟨(blk_cell BK7.out 0).trans rfl, (blk_cell BK7.out 1).trans rfl, (blk_cell BK2.out 0).trans rfl⟩ (fun hHeld => ?_)
 clear hK K
 refine nm_ ?_
 refine pu_ 6 6 7 127 ?_
 refine done_ (done_of HT_.out (by kernel_rfl)) ?_
 try go_wp2
 have n0_ := ak_ (k1_ BK2.out); have n1_ := ak_ (k1_ BK4.out); have n2_ := ak_ (k1_ BK7.out); have n3_ := ak_ (k1_ HK.out); have n4_ := ak_ (b1_ HB.out); have n5_ := ak_ (Kd.R_drew HD.out); clear BK2 BK4 BK7 HK HB HD; have BK2 := n0_; have BK4 := n1_; have BK7 := n2_; have HK := n3_; have HB := n4_; have HD := n5_; clear n0_ n1_ n2_ n3_ n4_ n5_
 have hx0_ := ((Kd.R_celln 0 HD.out 0 (by omega) (by omega)).1 : w12.drew.cell? ⟨gd, 0, none⟩ = some (.int .i64 (rdOf 0 dist' 0)))
 have HX := ak_ hx0_
 clear hx0_
 refine start_ (n := 9) (S := fun w' => w'.cell? ⟨gb7, 0, none⟩ = some (.int .i64 (grN th.toNat)) ∧ w'.cell? ⟨gb7, 1, none⟩ = some (.func (.func 141) #[] #[.pointer (some ⟨Bc, 0, none⟩)]) ∧ w'.cell? ⟨gd, 0, none⟩ = some (.int .i64 (rdOf 0 dist' 0))) (ds := []) (mb_ 9 0) (by kernel_rfl) rfl rfl ⟨(blk_cell BK7.out 0).trans rfl, (blk_cell BK7.out 1).trans rfl, HX.out⟩ (fun hHeld => ?_); refine with_tabW impl_Keep_costs.T3_ impl_Keep_costs.B3_ (fun HT_ HW_ => ?_)
 generalize w12.drew = w13 at BK2 BK4 BK7 HK HB HD HX hHeld ⊢
 refine tk_ 0 15 9 1 ?_ (hy := by rintro w' ⟨s0, s1, s2⟩; go_simp; with_reducible rfl)
 refine pu_ 1 16 9 3 ?_
 refine pu_ 2 17 9 7 ?_
 refine pu_ 3 18 9 15 ?_
 refine tk_ 4 19 9 31 ?_ (hy := by rintro w' ⟨s0, s1, s2⟩; go_simp; with_reducible rfl)
 refine pu_ 5 20 9 63 ?_
 refine one_ (i := 6) (N := none) (mb_ 9 127) rfl rfl (one_of HT_.out (by kernel_rfl)) (by decide) (fun K hK => ?_)
 have hz40 := blk_cell BK4.out 0
 have hz41 := blk_cell BK4.out 1
 have hf40 := blk_frozen BK4.out 0
 have hf41 := blk_frozen BK4.out 1
 simp at hz40
 simp at hz41
 have B41 := ak_ (blk_put (cs' := #[.int .i64 (grN th.toNat), .func (.func 141) #[] #[.pointer (some ⟨Bc, 0, none⟩)]]) (blk_put (cs' := #[.int .i64 (grN th.toNat), .nilFunc]) BK4.out 0 (.int .i64 (grN th.toNat)) rfl) 1 (.func (.func 141) #[] #[.pointer (some ⟨Bc, 0, none⟩)]) rfl)
 have B71 := ak_ (blk_far (p := ⟨gb4, 1, none⟩) (blk_far (p := ⟨gb4, 0, none⟩) BK7.out NE4_7.out.symm (.int .i64 (grN th.toNat))) NE4_7.out.symm (.func (.func 141) #[] #[.pointer (some ⟨Bc, 0, none⟩)]))
 have D1 := ak_ (Kd.R_set (Kd.R_set HD.out BK4.out (by decide) 0 (.int .i64 (grN th.toNat))) (blk_put (cs' := #[.int .i64 (grN th.toNat), .nilFunc]) BK4.out 0 (.int .i64 (grN th.toNat)) rfl) (by decide) 1 (.func (.func 141) #[] #[.pointer (some ⟨Bc, 0, none⟩)]))
 have HB1 := ak_ (below_set (v := (.func (.func 141) #[] #[.pointer (some ⟨Bc, 0, none⟩)])) (j := 1) (below_set (v := (.int .i64 (grN th.toNat))) (j := 0) HB.out GE4.out) GE4.out)
 have K1 := ak_ (show ((w13.setCell ⟨gb4, 0, none⟩ (.int .i64 (grN th.toNat))).setCell ⟨gb4, 1, none⟩ (.func (.func 141) #[] #[.pointer (some ⟨Bc, 0, none⟩)])).heap[Bc]? = some (.cells #[.int .i64 th, .slice Ad ds.length cd0, .int .i64 se] 52 (0, 0)) from blk_far (blk_far HK.out (gr_typ HK.out BK4.out (by decide)) (.int .i64 (grN th.toNat))) (gr_typ HK.out BK4.out (by decide)) (.func (.func 141) #[] #[.pointer (some ⟨Bc, 0, none⟩)]))
 refine skip_ (w1 := ?_) (by rfl) rfl ?_ ?_
 rotate_left
 ·go_simp
  rfl
 generalize (w13.setCell ⟨gb4, 0, none⟩ (.int .i64 (grN th.toNat))).setCell ⟨gb4, 1, none⟩ (.func (.func 141) #[] #[.pointer (some ⟨Bc, 0, none⟩)]) = w14 at B41 B71 D1 HB1 K1 ⊢
 have hx0_ := ((Kd.R_celln 0 D1.out 0 (by omega) (by omega)).1 : w14.cell? ⟨gd, 0, none⟩ = some (.int .i64 (rdOf 0 dist' 0)))
 refine hK.out _ _ ⟨(blk_cell B71.out 0).trans rfl, (blk_cell B71.out 1).trans rfl, hx0_⟩ (fun hHeld => ?_)
 clear hK K hx0_
 refine pu_ 7 3 9 255 ?_
 refine pu_ 8 4 9 511 ?_
 refine done_ (done_of HT_.out (by kernel_rfl)) ?_
 try go_wp2
 refine bodyPost_ret (results_ctt rfl _ _ gb4 68 #[.int .i64 (grN th.toNat), .func (.func 141) #[] #[.pointer (some ⟨Bc, 0, none⟩)]] (0, 0) _ rfl B41.out Try.underlying68 rfl (by kernel_rfl)) rfl ?_
 exact ⟨141, #[.pointer (some ⟨Bc, 0, none⟩)], gd, cd, rfl, enters_of Try.func141 (by kernel_rfl) rfl, HA.out, HE.out w14 HB1.out Bc K1.out, D1.out, HB1.out⟩
attribute [local go_sem] run_store_fn_
def impl_FirstRides.f (k : Nat) (th : Int) (ds : List (List Int)) (se : Int) : Option (List (List Int) × Bool) := (impl_IsKeep.f k th ds se).bind fun b => if b = true then (impl_Keep_costs.f k th ds se).bind fun p => if p.2 = true then (fiG (kpG k th ds se) k (grN th.toNat) 0 p.1).bind fun r => some (r, true) else some ([], false) else some ([], false)
theorem impl_FirstRides.calls (k : Nat) (th : Int) (Ad : Option Addr) (cd0 : Nat) (ds : List (List Int)) (se : Int) (r1 : List (List Int)) (r2 : Bool) (w : World) (hkd : Kd.C (Kd.slice 3 (Kd.int .i64)) w Ad ds.length ds) (hdc : ds.length ≤ cd0) (h : impl_FirstRides.f k th ds se = some (r1, r2)) :
  Calls Try.prog 35 #[.agg #[.int .i64 th, .slice Ad ds.length cd0, .int .i64 se]] w fun e w' => ∃ v0_ : Value, e = .returned (.tuple #[v0_, .bool r2]) ∧ Kd.S (Kd.slice 3 (Kd.int .i64)) 29 w' w.heap.size (fun _ => True) v0_ r1 ∧ Below w.heap.size w w' := by
 have hu := Try.underlying52
 have hu2 := Try.underlying68
 unfold impl_FirstRides.f at h
 obtain ⟨b1, h1, h⟩ := Option.bind_eq_some_iff.mp h
 have A1 := ak_ fun (W : World) (hb : Below w.heap.size w W) => impl_IsKeep.calls k th Ad cd0 ds se b1 W (Kd.C_below hkd hb) hdc h1
 have HB := ak_ (Below.refl w.heap.size w)
 cases b1
 ·rw [if_neg (by simp)] at h
  obtain ⟨rfl, rfl⟩ : ([] : List (List Int)) = r1 ∧ false = r2 := by simpa using h
  clear h h1 hkd hdc
  go_enter Try.func35, Try.ntmps35
  go_upto_region 1 with (first | ((with_reducible refine gate_dst (N := 1) rfl ?_); refine bx_ 1 #[.int .i64 th, .slice Ad ds.length cd0, .int .i64 se] 52 ?_; intro gb1 hg w1 hbox hb; have nb_ := ak_ (bs_ (bb_ HB.out) hb); have nc_ := ak_ hbox; have nd_ := ak_ ((by rw [hg]; exact (bz_ (bb_ HB.out)) : w.heap.size ≤ gb1)); clear HB hb hbox hg; have HB := nb_; have BK1 := nc_; have GE1 := nd_; clear nb_ nc_ nd_; have hz1_0 := (blk_cell BK1.out 0); have hf1_0 := (blk_frozen BK1.out 0); simp at hz1_0; have hz1_1 := (blk_cell BK1.out 1); have hf1_1 := (blk_frozen BK1.out 1); simp at hz1_1; have hz1_2 := (blk_cell BK1.out 2); have hf1_2 := (blk_frozen BK1.out 2); simp at hz1_2; skip))
  have hq0 := blk_cell BK1.out 0
  have hq1 := blk_cell BK1.out 1
  have hq2 := blk_cell BK1.out 2
  simp at hq0
  simp at hq1
  simp at hq2
  go_wp2_with (go_at_call 66; refine (A1.out _ (bb_ HB.out)).mono ?_; rintro e w8 ⟨rfl, hb⟩; clear hq0 hq1 hq2 A1; have n0_ := ak_ (blk_below (pk BK1.out) hb); have n1_ := ak_ (bs_ (bb_ HB.out) hb); clear BK1 HB hb; have BK1 := n0_; have HB := n1_; clear n0_ n1_)
  first | go_ret2 | go_ret
  exact ⟨_, rfl, Kd.S_nil _ _ _ _ _, (bb_ HB.out)⟩
 ·rw [if_pos rfl] at h
  have hth : 0 ≤ th := by
   by_cases hc : 0 ≤ th
   ·exact hc
   ·unfold impl_IsKeep.f impl_in.f at h1
    rw [if_neg hc, Option.bind_some, if_neg (by decide)] at h1
    cases k with
    | zero => simp [impl_IsKeep.j0] at h1
    | succ k => simp [impl_IsKeep.j0] at h1
  obtain ⟨⟨dist, b2⟩, h2, h⟩ := Option.bind_eq_some_iff.mp h
  have A2 := ak_ fun (W : World) (hb : Below w.heap.size w W) => impl_Keep_costs.calls k th Ad cd0 ds se dist b2 W hth (Kd.C_below hkd hb) hdc h2
  have H := ak_ h
  have HN := ak_ h1
  clear h h1 h2 hkd hdc
  go_enter Try.func35, Try.ntmps35
  go_upto_region 1 with (first | ((with_reducible refine gate_dst (N := 1) rfl ?_); refine bx_ 1 #[.int .i64 th, .slice Ad ds.length cd0, .int .i64 se] 52 ?_; intro gb1 hg w1 hbox hb; have nb_ := ak_ (bs_ (bb_ HB.out) hb); have nc_ := ak_ hbox; have nd_ := ak_ ((by rw [hg]; exact (bz_ (bb_ HB.out)) : w.heap.size ≤ gb1)); clear HB hb hbox hg; have HB := nb_; have BK1 := nc_; have GE1 := nd_; clear nb_ nc_ nd_; have hz1_0 := (blk_cell BK1.out 0); have hf1_0 := (blk_frozen BK1.out 0); simp at hz1_0; have hz1_1 := (blk_cell BK1.out 1); have hf1_1 := (blk_frozen BK1.out 1); simp at hz1_1; have hz1_2 := (blk_cell BK1.out 2); have hf1_2 := (blk_frozen BK1.out 2); simp at hz1_2; skip))
  have hq0 := blk_cell BK1.out 0
  have hq1 := blk_cell BK1.out 1
  have hq2 := blk_cell BK1.out 2
  simp at hq0
  simp at hq1
  simp at hq2
  go_upto_region 3 with (go_at_call 66; refine (A1.out _ (bb_ HB.out)).mono ?_; rintro e w8 ⟨rfl, hb⟩; clear hq0 hq1 hq2 A1; have n0_ := ak_ (blk_below (pk BK1.out) hb); have n1_ := ak_ (bs_ (bb_ HB.out) hb); clear BK1 HB hb; have BK1 := n0_; have HB := n1_; clear n0_ n1_)
  have hq0 := blk_cell BK1.out 0
  have hq1 := blk_cell BK1.out 1
  have hq2 := blk_cell BK1.out 2
  simp at hq0
  simp at hq1
  simp at hq2
  go_upto_region 4 with (first | (go_at_call 67; refine (A2.out _ (bb_ HB.out)).mono ?_; rintro e w12 ⟨fo, cb, gd, cd, rfl, hen, hga, hgo, hdi, hb⟩; have HEN := ak_ hen; have HGA := ak_ hga; have HGO := ak_ hgo; have HD := ak_ hdi; have HB12 := ak_ (Below.refl w12.heap.size w12); clear hq0 hq1 hq2 A2; have n0_ := ak_ (blk_below (pk BK1.out) hb); have n1_ := ak_ (bs_ (bb_ HB.out) hb); clear BK1 HB hb hen hga hgo hdi; have BK1 := n0_; have HB := n1_; clear n0_ n1_) | ((with_reducible refine gate_dst (N := 4) rfl ?_); refine bx_ 4 #[.int .i64 0, .nilFunc] 68 ?_; intro gb4 hg w4 hbox hb; have n0_ := ak_ (blk_below (pk BK1.out) hb); have m0_ := ak_ ((by rw [hg]; exact Nat.ne_of_lt (blk_lt (pk BK1.out)) : gb1 ≠ gb4)); have nb_ := ak_ (bs_ (bb_ HB.out) hb); have nc_ := ak_ hbox; have nd_ := ak_ ((by rw [hg]; exact (bz_ (bb_ HB.out)) : w.heap.size ≤ gb4)); have n12_ := ak_ hb; have HG12 := ak_ (by rw [hg]; exact Nat.le_refl _ : w12.heap.size ≤ gb4); clear HB HB12 hb hbox hg; have HB12 := n12_; clear n12_; clear BK1; have BK1 := n0_; have NE1_4 := m0_; have HB := nb_; have BK4 := nc_; have GE4 := nd_; clear nb_ nc_ nd_ n0_ m0_; have hz4_0 := (blk_cell BK4.out 0); have hf4_0 := (blk_frozen BK4.out 0); simp at hz4_0; have hz4_1 := (blk_cell BK4.out 1); have hf4_1 := (blk_frozen BK4.out 1); simp at hz4_1; skip))
  have B41 := ak_ (blk_put (cs' := #[.int .i64 (grN th.toNat), .func (.func fo) #[] cb]) (blk_put (cs' := #[.int .i64 (grN th.toNat), .nilFunc]) BK4.out 0 (.int .i64 (grN th.toNat)) rfl) 1 (.func (.func fo) #[] cb) rfl)
  have HB1 := ak_ (below_set (v := (.func (.func fo) #[] cb)) (j := 1) (below_set (v := (.int .i64 (grN th.toNat))) (j := 0) HB.out GE4.out) GE4.out)
  have HB2 := ak_ (below_set (v := (.func (.func fo) #[] cb)) (j := 1) (below_set (v := (.int .i64 (grN th.toNat))) (j := 0) HB12.out HG12.out) HG12.out)
  generalize (w4.setCell ⟨gb4, 0, none⟩ (.int .i64 (grN th.toNat))).setCell ⟨gb4, 1, none⟩ (.func (.func fo) #[] cb) = w5 at B41 HB1 HB2 ⊢
  clear BK4 HB HB12 hz4_0 hz4_1 hf4_0 hf4_1
  have HB := HB1; clear HB1
  have h := H.out
  cases b2
  ·rw [if_neg (by simp)] at h
   obtain ⟨rfl, rfl⟩ : ([] : List (List Int)) = r1 ∧ false = r2 := by simpa using h
   clear h H
   go_wp2
   first | go_ret2 | go_ret
   exact ⟨_, rfl, Kd.S_nil _ _ _ _ _, (bb_ HB.out)⟩
  ·rw [if_pos rfl] at h
   obtain ⟨r, h3, h⟩ := Option.bind_eq_some_iff.mp h
   obtain ⟨rfl, rfl⟩ : r = r1 ∧ true = r2 := by simpa using h
   unfold fiG at h3
   rw [if_pos HGA.out] at h3
   have A3 := ak_ fun (W : World) (hb : Below w12.heap.size w12 W) => impl_graph_int_first.calls fo cb (grN th.toNat) (grE (kpG k th ds se)) w12 W HEN.out HGO.out hb k 0 (some ⟨gd, 0, none⟩) cd dist r (Kd.C_below (Kd.R_reads' HD.out).2.2 hb) h3
   have hz0 := blk_cell B41.out 0
   have hz1 := blk_cell B41.out 1
   simp at hz0
   simp at hz1
   clear h h3 H
   go_wp2_with (go_at_call 76; refine (A3.out _ (by repeat (first | (with_reducible first | exact HB2.out | apply ba_ | apply bN_ | apply b1_) | exact HB2.out))).mono ?_; rintro e w20 ⟨v20, rfl, ho, hb⟩; have HO := ak_ (Kd.S_lower ho (bz_ (bb_ HB.out))); have n0_ := ak_ (bs_ (bb_ HB.out) hb); clear HB HB2 hb ho; have HB := n0_; clear n0_)
   first | go_ret2 | go_ret
   exact ⟨_, rfl, Kd.S_below HO.out be_, (bb_ HB.out)⟩
theorem laws_markKeep.calls (k : Nat) (P0_ : Nat → Prop) (u : Value) (a0 : Int) (l1 : List (List Int)) (a2 : Int) (a1 : Int) (r1 : Int) (r2 : List (List Int)) (w0 w : World) (hB : Below w0.heap.size w0 w) (ho0 : Kd.S (Kd.slice 3 (Kd.int .i64)) 29 w w0.heap.size P0_ u l1) (hP : ∀ k, P0_ k → k < w.heap.size) (h : laws_markIntSS.f k l1 a1 = some (r1, r2)) :
  Calls Try.prog 36 #[.agg #[.int .i64 a0, u, .int .i64 a2], .int .i64 a1] w fun e w' => e = .returned (.int .i64 r1) ∧ Kd.S (Kd.slice 3 (Kd.int .i64)) 29 w' w0.heap.size P0_ u r2 ∧ Below w0.heap.size w0 w' ∧ Kept w w' P0_ := by
 obtain ⟨A, co, rfl⟩ := Kd.S_slice ho0
 have HO := ak_ ho0
 have HB := ak_ hB
 have HC := ak_ fun (W : World) (hb : Below w.heap.size w W) => laws_markIntSS.calls k P0_ _ l1 a1 r1 r2 w0 W (bs_ hB hb) (Kd.S_below ho0 hb) h
 clear hB ho0 h
 generalize hn : l1.length = n at HO HC ⊢
 clear hn
 go_enter Try.func36, Try.ntmps36
 go_wp2_with (first | ((with_reducible refine gate_dst (N := 2) rfl ?_); refine bx_ 2 #[.int .i64 a0, .slice A n co, .int .i64 a2] 52 ?_; intro gb8 hg8 w8 hbox8 hb8; have hz8_0 := (blk_cell hbox8 0); have hf8_0 := (blk_frozen hbox8 0); simp at hz8_0; have hz8_1 := (blk_cell hbox8 1); have hf8_1 := (blk_frozen hbox8 1); simp at hz8_1; have hz8_2 := (blk_cell hbox8 2); have hf8_2 := (blk_frozen hbox8 2); simp at hz8_2; have BK8 := ak_ hbox8; clear hbox8; have GW8 := ak_ (Nat.le_of_eq hg8.symm); clear hg8; skip) | (go_at_call 32; refine (HC.out _ hb8).mono ?_; rintro e w1 ⟨rfl, hS1, hB1, hK1⟩))
 go_ret
 exact ⟨rfl, hS1, hB1, (Kept.of_below hb8 P0_).then_ hK1 (fun k hk => .inl hk)⟩
def laws_FnExactFirstRides.f (k : Nat) (th : Int) (ds : List (List Int)) (se : Int) : Option Bool := (laws_szKeep.f k th ds se 1048576).bind fun t => if t < 0 then some true else
 ((laws_toKeep.f k th ds se).bind fun x => (spec_FirstRides.f k x.1 x.2.1 x.2.2).bind fun s => (impl_FirstRides.f k x.1 x.2.1 x.2.2).bind fun g => if g = s then ((laws_eqIntSS.f k s.1 s.1).bind fun t1 => if t1 = true then ((laws_eqKeep.f k x.1 x.2.1 x.2.2 x.1 x.2.1 x.2.2).bind fun t2 => if t2 = true then
  ((laws_markIntSS.f k x.2.1 1).bind fun mx => if mx.1 < 0 then none else ((laws_markIntSS.f k s.1 1).bind fun m => (laws_heldIntSS.f k m.2 1).bind fun q => if q < 0 then none else if q = m.1 then some true else none)) else none) else none) else none)
def laws_FnExactFirstRides.T10 : Bool × List (List Nat × List Nat) := (true, [([], []), ([], []), ([1], [1]), ([0, 2, 2], [0, 2]), ([3], [3])])
def laws_FnExactFirstRides.B10 : List Nat := [0, 0, 2, 7, 15]
theorem laws_FnExactFirstRides.T10_ : rtab .any (opsOf Try.f8 10) = laws_FnExactFirstRides.T10 := by kernel_rfl
theorem laws_FnExactFirstRides.B10_ : waitsOk laws_FnExactFirstRides.T10.2 laws_FnExactFirstRides.B10 = true := by kernel_rfl
theorem laws_FnExactFirstRides.calls (k : Nat) (th : Int) (Ad : Option Addr) (cd0 : Nat) (ds : List (List Int)) (se : Int) (r : Bool) (w : World) (hkd : Kd.C (Kd.slice 3 (Kd.int .i64)) w Ad ds.length ds) (hdc : ds.length ≤ cd0) (h : laws_FnExactFirstRides.f k th ds se = some r) :
  Calls Try.prog 8 #[.agg #[.int .i64 th, .slice Ad ds.length cd0, .int .i64 se]] w fun e w' => e = .returned (.bool r) ∧ Below w.heap.size w w' := by
 have hu1 := Try.underlying49
 have hu2 := Try.underlying52
 unfold laws_FnExactFirstRides.f at h
 obtain ⟨t, A20, h⟩ := Option.bind_eq_some_iff.mp h
 have A2 := ak_ fun (W : World) (hb : Below w.heap.size w W) => laws_szKeep.calls k th Ad cd0 ds se 1048576 t W (Kd.C_below hkd hb) hdc A20
 have HB := ak_ (Below.refl w.heap.size w)
 by_cases c3 : t < 0
 ·rw [if_pos c3] at h
  have c3b0 : decide (t < 0) = true := decide_eq_true c3
  obtain rfl := Option.some.inj h
  clear c3 h hkd hdc A20
  go_enter Try.func8, Try.ntmps8
  go_wp2_with (first | ((with_reducible refine gate_dst (N := 1) rfl ?_); refine bx_ 1 #[.int .i64 th, .slice Ad ds.length cd0, .int .i64 se] 49 ?_; intro gb1 hg w1 hbox hb; have nb_ := ak_ (bs_ (bb_ HB.out) hb); have nc_ := ak_ hbox; have nd_ := ak_ ((by rw [hg]; exact (bz_ (bb_ HB.out)) : w.heap.size ≤ gb1)); clear HB hb hbox hg; have HB := nb_; have BK1 := nc_; have GE1 := nd_; clear nb_ nc_ nd_; have hz1_0 := (blk_cell BK1.out 0); have hf1_0 := (blk_frozen BK1.out 0); simp at hz1_0; have hz1_1 := (blk_cell BK1.out 1); have hf1_1 := (blk_frozen BK1.out 1); simp at hz1_1; have hz1_2 := (blk_cell BK1.out 2); have hf1_2 := (blk_frozen BK1.out 2); simp at hz1_2; skip) | (go_at_call 23; (refine (A2.out _ (bb_ HB.out)).mono ?_); rintro e w20 ⟨rfl, hb⟩; have n0_ := ak_ (blk_below (pk BK1.out) hb); have nb_ := ak_ (bs_ (bb_ HB.out) hb); clear BK1 HB hb; have BK1 := n0_; have HB := nb_; clear nb_ n0_; have hq1_0 := (blk_cell BK1.out 0); simp at hq1_0; have hq1_1 := (blk_cell BK1.out 1); simp at hq1_1; have hq1_2 := (blk_cell BK1.out 2); simp at hq1_2))
  go_ret
  exact ⟨rfl, (bb_ HB.out)⟩
 rw [if_neg c3] at h
 have c3b0 : decide (t < 0) = false := decide_eq_false c3
 clear c3
 obtain ⟨⟨x0, x1, x2⟩, A70, h⟩ := Option.bind_eq_some_iff.mp h
 obtain ⟨⟨s1, s2⟩, A80, h⟩ := Option.bind_eq_some_iff.mp h
 obtain ⟨g, A100, h⟩ := Option.bind_eq_some_iff.mp h
 dsimp only at A80 A100 h
 by_cases hg : g = (s1, s2)
 rotate_left
 ·rw [if_neg hg] at h; exact absurd h (by simp)
 rw [if_pos hg] at h
 subst hg
 obtain ⟨t1, A260, h⟩ := Option.bind_eq_some_iff.mp h
 by_cases ht : t1 = true
 rotate_left
 ·rw [if_neg ht] at h; exact absurd h (by simp)
 rw [if_pos ht] at h
 subst ht
 obtain ⟨t2, A340, h⟩ := Option.bind_eq_some_iff.mp h
 by_cases ht : t2 = true
 rotate_left
 ·rw [if_neg ht] at h; exact absurd h (by simp)
 rw [if_pos ht] at h
 subst ht
 obtain ⟨⟨m1, m2⟩, A360, h⟩ := Option.bind_eq_some_iff.mp h
 dsimp only at h
 by_cases c5 : m1 < 0
 ·rw [if_pos c5] at h; exact absurd h (by simp)
 rw [if_neg c5] at h
 have c5b0 : decide (m1 < 0) = false := decide_eq_false c5
 clear c5
 obtain ⟨⟨m, l'⟩, A60, h⟩ := Option.bind_eq_some_iff.mp h
 obtain ⟨q, A90, h⟩ := Option.bind_eq_some_iff.mp h
 dsimp only at A90 h
 by_cases c6 : q < 0
 ·rw [if_pos c6] at h; exact absurd h (by simp)
 rw [if_neg c6] at h
 have c6b0 : decide (q < 0) = false := decide_eq_false c6
 clear c6
 by_cases hm : q = m
 rotate_left
 ·rw [if_neg hm] at h; exact absurd h (by simp)
 rw [if_pos hm] at h
 obtain rfl := Option.some.inj h
 have hm0 : (q == m) = true := beq_iff_eq.mpr hm
 have hm1 : (q != m) = false := bne_eq_false_iff_eq.mpr hm
 clear hm h
 have hok1 : (s2 != s2) = false := by simp
 have hok0 : (s2 == s2) = true := by simp
 have A7 := ak_ fun (W : World) (hb : Below w.heap.size w W) => laws_toKeep.calls k th Ad cd0 ds se x0 x1 x2 W (Kd.C_below hkd hb) hdc A70
 have A8 := ak_ fun (W : World) A1 c1 h1 h2 => spec_FirstRides.calls k x0 A1 c1 x1 x2 s1 s2 W h1 h2 A80
 have A10 := ak_ fun (W : World) A1 c1 h1 h2 => impl_FirstRides.calls k x0 A1 c1 x1 x2 s1 s2 W h1 h2 A100
 have A26 := ak_ fun W A c A' c' h1 h2 h3 h4 => laws_eqIntSS.calls k A c s1 A' c' s1 true W h1 h2 h3 h4 A260
 have A34 := ak_ fun W A1 c1 A'1 c'1 h1 h2 h3 h4 => laws_eqKeep.calls k x0 A1 c1 x1 x2 x0 A'1 c'1 x1 x2 true W h1 h2 h3 h4 A340
 have A36 := ak_ fun P_ u w0 W h1 h2 h3 => laws_markKeep.calls k P_ u x0 x1 x2 1 m1 m2 w0 W h1 h2 h3 A360
 have A6 := ak_ fun P_ u w0 W h1 h2 => laws_markIntSS.calls k P_ u s1 1 m l' w0 W h1 h2 A60
 have A9 := ak_ fun W A c h1 h2 => laws_heldIntSS.calls k A c l' 1 q W h1 h2 A90
 clear A20 A70 A80 A100 A260 A340 A360 A60 A90 hkd hdc
 go_enter Try.func8, Try.ntmps8
 go_upto_region 5 with (first | ((with_reducible refine gate_dst (N := 1) rfl ?_); refine bx_ 1 #[.int .i64 th, .slice Ad ds.length cd0, .int .i64 se] 49 ?_; intro gb1 hg w1 hbox hb; have nb_ := ak_ (bs_ (bb_ HB.out) hb); have nc_ := ak_ hbox; have nd_ := ak_ ((by rw [hg]; exact (bz_ (bb_ HB.out)) : w.heap.size ≤ gb1)); clear HB hb hbox hg; have HB := nb_; have BK1 := nc_; have GE1 := nd_; clear nb_ nc_ nd_; have hz1_0 := (blk_cell BK1.out 0); have hf1_0 := (blk_frozen BK1.out 0); simp at hz1_0; have hz1_1 := (blk_cell BK1.out 1); have hf1_1 := (blk_frozen BK1.out 1); simp at hz1_1; have hz1_2 := (blk_cell BK1.out 2); have hf1_2 := (blk_frozen BK1.out 2); simp at hz1_2; skip) | (go_at_call 23; (refine (A2.out _ (bb_ HB.out)).mono ?_); rintro e w20 ⟨rfl, hb⟩; have n0_ := ak_ (blk_below (pk BK1.out) hb); have nb_ := ak_ (bs_ (bb_ HB.out) hb); clear BK1 HB hb; have BK1 := n0_; have HB := nb_; clear nb_ n0_; have hq1_0 := (blk_cell BK1.out 0); simp at hq1_0; have hq1_1 := (blk_cell BK1.out 1); simp at hq1_1; have hq1_2 := (blk_cell BK1.out 2); simp at hq1_2))
 go_upto_region 6 with (first | (go_at_call 25; (refine (A7.out _ (bb_ HB.out)).mono ?_); rintro e w23 ⟨v1_, rfl, ho1, hb⟩; obtain ⟨AT1, cT1, rfl⟩ := Kd.S_slice ho1; have HT1 := ak_ ho1; clear ho1; have n0_ := ak_ (blk_below (pk BK1.out) hb); have nb_ := ak_ (bs_ (bb_ HB.out) hb); clear BK1 HB hb; have BK1 := n0_; have HB := nb_; clear nb_ n0_; have hq1_0 := (blk_cell BK1.out 0); simp at hq1_0; have hq1_1 := (blk_cell BK1.out 1); simp at hq1_1; have hq1_2 := (blk_cell BK1.out 2); simp at hq1_2) | (go_at_call 34; (refine ((A8.out _ AT1 cT1 (Kd.S_reads' (Kd.pS HT1.out)).2.2 (Kd.S_reads' HT1.out).2.1)).mono ?_); rintro e w22 ⟨v2, rfl, ho, hb⟩; have hv_ : Kd.V (Kd.slice 3 (Kd.int .i64)) 29 w22 w.heap.size _ v2 s1 := Kd.N_V ho; obtain ⟨As, cs, rfl⟩ := Kd.V_slice hv_; have HS := ak_ (Kd.V_mono (ok' := fun k => k < w22.heap.size) (Kd.V_bound hv_) (fun k hk => hk.2)); clear ho hv_ HT1; have n0_ := ak_ (blk_below (pk BK1.out) hb); have nb_ := ak_ (bs_ (bb_ HB.out) hb); clear BK1 HB hb; have BK1 := n0_; have HB := nb_; clear nb_ n0_; have hq1_0 := (blk_cell BK1.out 0); simp at hq1_0; have hq1_1 := (blk_cell BK1.out 1); simp at hq1_1; have hq1_2 := (blk_cell BK1.out 2); simp at hq1_2))
 have LT1 := ak_ (blk_lt BK1.out)
 go_upto_region 7 with ((go_at_call 25; (refine (A7.out _ (bb_ HB.out)).mono ?_); rintro e w24 ⟨v1_, rfl, ho1, hb⟩; obtain ⟨Ax1, cx1, rfl⟩ := Kd.S_slice ho1; have HX1 := ak_ (Kd.S_mono (ok' := fun k => w22.heap.size ≤ k ∧ k < w24.heap.size) (Kd.S_lower (Kd.S_bound ho1) (bz_ (bb_ HB.out))) (fun k hk => ⟨Nat.le_trans (bz_ be_) hk.2.1, hk.2.2.1⟩)); have SZ := ak_ (Nat.le_trans (bz_ be_) hb.size : w22.heap.size ≤ w24.heap.size); clear ho1; have n0_ := ak_ (blk_below (pk BK1.out) hb); have n1_ := ak_ (Kd.V_below (Kd.pV HS.out) hb); have nb_ := ak_ (bs_ (bb_ HB.out) hb); clear BK1 HS HB hb; have BK1 := n0_; have HS := n1_; have HB := nb_; clear nb_ n0_ n1_; have hq1_0 := (blk_cell BK1.out 0); simp at hq1_0; have hq1_1 := (blk_cell BK1.out 1); simp at hq1_1; have hq1_2 := (blk_cell BK1.out 2); simp at hq1_2))
 obtain ⟨w25, hw25⟩ : ∃ W, W = w24.alloc (.cells #[.int .i64 x0, .slice Ax1 x1.length cx1, .int .i64 x2] 52) := ⟨_, rfl⟩
 have hb : Below w24.heap.size w24 w25 := (by rw [hw25]; exact ba_ (Below.refl _ _) _)
 have hbk : w25.heap[w24.heap.size]? = some (.cells #[.int .i64 x0, .slice Ax1 x1.length cx1, .int .i64 x2] 52 (0, 0)) := (by rw [hw25]; exact blk_new w24 _)
 rw [← hw25]
 clear hw25
 have SZ3 := ak_ (blk_lt hbk : w24.heap.size < w25.heap.size)
 have n0_ := ak_ (blk_below (pk BK1.out) hb); have n1_ := ak_ (Kd.V_below (Kd.pV HS.out) hb); have n2_ := ak_ (Kd.S_below (Kd.pS HX1.out) hb); have nb_ := ak_ (bs_ (bb_ HB.out) hb); clear BK1 HS HX1 HB hb; have BK1 := n0_; have HS := n1_; have HX1 := n2_; have HB := nb_; clear nb_ n0_ n1_ n2_; have hq1_0 := (blk_cell BK1.out 0); simp at hq1_0; have hq1_1 := (blk_cell BK1.out 1); simp at hq1_1; have hq1_2 := (blk_cell BK1.out 2); simp at hq1_2
 obtain ⟨gb6, hg6⟩ : ∃ g, g = w24.heap.size := ⟨_, rfl⟩
 have G6 := ak_ hg6
 rw [← hg6] at hbk ⊢
 have BK6 := ak_ hbk
 clear hbk hg6
 have hq6_0 := (blk_cell BK6.out 0)
 simp at hq6_0
 have hq6_1 := (blk_cell BK6.out 1)
 simp at hq6_1
 have hq6_2 := (blk_cell BK6.out 2)
 simp at hq6_2
 go_upto_region 8 with ((go_at_call 35; (refine (A10.out _ Ax1 cx1 (Kd.S_reads' (Kd.pS HX1.out)).2.2 (Kd.S_reads' HX1.out).2.1).mono ?_); rintro e w26 ⟨v5, rfl, ho, hb⟩; obtain ⟨Ag, cg, rfl⟩ := Kd.S_slice ho; have HG := ak_ (Kd.S_mono (ok' := fun k => w25.heap.size ≤ k ∧ k < w26.heap.size) (Kd.S_lower (Kd.S_bound ho) (bz_ (bb_ HB.out))) (fun k hk => ⟨Nat.le_trans (bz_ be_) hk.2.1, hk.2.2.1⟩)); clear ho; have n0_ := ak_ (blk_below (pk BK1.out) hb); have n1_ := ak_ (blk_below (pk BK6.out) hb); have n2_ := ak_ (Kd.V_below (Kd.pV HS.out) hb); have n3_ := ak_ (Kd.S_below (Kd.pS HX1.out) hb); have nb_ := ak_ (bs_ (bb_ HB.out) hb); clear BK1 BK6 HS HX1 HB hb; have BK1 := n0_; have BK6 := n1_; have HS := n2_; have HX1 := n3_; have HB := nb_; clear nb_ n0_ n1_ n2_ n3_; have hq1_0 := (blk_cell BK1.out 0); simp at hq1_0; have hq1_1 := (blk_cell BK1.out 1); simp at hq1_1; have hq1_2 := (blk_cell BK1.out 2); simp at hq1_2; have hq6_0 := (blk_cell BK6.out 0); simp at hq6_0; have hq6_1 := (blk_cell BK6.out 1); simp at hq6_1; have hq6_2 := (blk_cell BK6.out 2); simp at hq6_2))
 go_upto_region 10 with ((go_at_call 30; (refine (A26.out _ Ag cg As cs (Kd.S_reads' (Kd.pS HG.out)).2.2 (Kd.S_reads' HG.out).2.1 (Kd.V_reads' (Kd.pV HS.out)).2.2 (Kd.V_reads' HS.out).2.1).mono ?_); rintro e w27 ⟨rfl, hd⟩; have hb := hd.below; clear hd; have n0_ := ak_ (blk_below (pk BK1.out) hb); have n1_ := ak_ (blk_below (pk BK6.out) hb); have n2_ := ak_ (Kd.V_below (Kd.pV HS.out) hb); have n3_ := ak_ (Kd.S_below (Kd.pS HX1.out) hb); have n4_ := ak_ (Kd.S_below (Kd.pS HG.out) hb); have nb_ := ak_ (bs_ (bb_ HB.out) hb); clear BK1 BK6 HS HX1 HG HB hb; have BK1 := n0_; have BK6 := n1_; have HS := n2_; have HX1 := n3_; have HG := n4_; have HB := nb_; clear nb_ n0_ n1_ n2_ n3_ n4_; have hq1_0 := (blk_cell BK1.out 0); simp at hq1_0; have hq1_1 := (blk_cell BK1.out 1); simp at hq1_1; have hq1_2 := (blk_cell BK1.out 2); simp at hq1_2; have hq6_0 := (blk_cell BK6.out 0); simp at hq6_0; have hq6_1 := (blk_cell BK6.out 1); simp at hq6_1; have hq6_2 := (blk_cell BK6.out 2); simp at hq6_2))
 try go_wp2
 have n0_ := ak_ (k1_ BK1.out); have n1_ := ak_ (k1_ BK6.out); have n2_ := ak_ (Kd.V_drew HS.out); have n3_ := ak_ (Kd.S_drew HX1.out); have n4_ := ak_ (Kd.S_drew HG.out); have n5_ := ak_ (b1_ HB.out); clear BK1 BK6 HS HX1 HG HB hq1_0 hq1_1 hq1_2 hq6_0 hq6_1 hq6_2; have BK1 := n0_; have BK6 := n1_; have HS := n2_; have HX1 := n3_; have HG := n4_; have HB := n5_; clear n0_ n1_ n2_ n3_ n4_ n5_
 refine start_ (n := 5) (S := fun w' => w'.cell? ⟨gb6, 0, none⟩ = some (.int .i64 x0) ∧ w'.cell? ⟨gb6, 1, none⟩ = some (.slice Ax1 x1.length cx1) ∧ w'.cell? ⟨gb6, 2, none⟩ = some (.int .i64 x2) ∧ w'.cell? ⟨gb1, 0, none⟩ = some (.int .i64 th) ∧ w'.cell? ⟨gb1, 1, none⟩ = some (.slice Ad ds.length cd0) ∧ w'.cell? ⟨gb1, 2, none⟩ = some (.int .i64 se)) (ds := []) #[false, false, false, false, false] (by kernel_rfl) rfl rfl ⟨(blk_cell BK6.out 0).trans rfl, (blk_cell BK6.out 1).trans rfl, (blk_cell BK6.out 2).trans rfl, (blk_cell BK1.out 0).trans rfl, (blk_cell BK1.out 1).trans rfl, (blk_cell BK1.out 2).trans rfl⟩ (fun hHeld => ?_); refine with_tabW laws_FnExactFirstRides.T10_ laws_FnExactFirstRides.B10_ (fun HT_ HW_ => ?_)
 generalize w27.drew = w28 at BK1 BK6 HS HX1 HG HB hHeld ⊢
 refine tk_ 0 41 5 1 ?_ (hy := by rintro w' ⟨s0, s1, s2, s3, s4, s5⟩; go_simp; with_reducible rfl)
 refine tk_ 1 42 5 3 ?_ (hy := by rintro w' ⟨s0, s1, s2, s3, s4, s5⟩; go_simp; with_reducible rfl)
 refine on_ 2 43 5 7 (fun K hK => ?_)
 refine goes_ Try.func25 (by kernel_rfl) rfl #[.agg #[.int .i64 th, .slice Ad ds.length cd0, .int .i64 se]] (by rfl) rfl rfl (by (try simp only [List.map_toArray, List.map_cons, List.map_nil]); first | done | rfl) ?_
 refine (A7.out _ (bb_ HB.out)).mono ?_
 rintro e_ w29 ⟨v1_, rfl, ho1, hb⟩
 obtain ⟨AY1, cY1, rfl⟩ := Kd.S_slice ho1
 have HY1 := ak_ ho1; clear ho1
 refine ⟨_, rfl, ?_⟩
 have n0_ := ak_ (blk_below (pk BK1.out) hb); have n1_ := ak_ (blk_below (pk BK6.out) hb); have n2_ := ak_ (Kd.V_below (Kd.pV HS.out) hb); have n3_ := ak_ (Kd.S_below (Kd.pS HX1.out) hb); have n4_ := ak_ (Kd.S_below (Kd.pS HG.out) hb); have nb_ := ak_ (bs_ (bb_ HB.out) hb); clear BK1 BK6 HS HX1 HG HB hb; have BK1 := n0_; have BK6 := n1_; have HS := n2_; have HX1 := n3_; have HG := n4_; have HB := nb_; clear nb_ n0_ n1_ n2_ n3_ n4_
 refine hK.out _ _ ⟨(blk_cell BK6.out 0).trans rfl, (blk_cell BK6.out 1).trans rfl, (blk_cell BK6.out 2).trans rfl, (blk_cell BK1.out 0).trans rfl, (blk_cell BK1.out 1).trans rfl, (blk_cell BK1.out 2).trans rfl⟩ (fun hHeld => ?_)
 clear hK K
 refine nm_ ?_
 refine on_ 3 44 5 15 (fun K hK => ?_)
 refine goes_ Try.func27 (by kernel_rfl) rfl #[.agg #[.int .i64 x0, .slice Ax1 x1.length cx1, .int .i64 x2], .agg #[.int .i64 x0, .slice AY1 x1.length cY1, .int .i64 x2]] (by rfl) rfl rfl (by (try simp only [List.map_toArray, List.map_cons, List.map_nil]); first | done | rfl) ?_
 refine (A34.out _ Ax1 cx1 AY1 cY1 (Kd.S_reads' (Kd.pS HX1.out)).2.2 (Kd.S_reads' HX1.out).2.1 (Kd.S_reads' (Kd.pS HY1.out)).2.2 (Kd.S_reads' HY1.out).2.1).mono ?_
 rintro e_ w30 ⟨rfl, hb⟩
 refine ⟨_, rfl, ?_⟩
 have n0_ := ak_ (blk_below (pk BK1.out) hb); have n1_ := ak_ (blk_below (pk BK6.out) hb); have n2_ := ak_ (Kd.V_below (Kd.pV HS.out) hb); have n3_ := ak_ (Kd.S_below (Kd.pS HX1.out) hb); have n4_ := ak_ (Kd.S_below (Kd.pS HG.out) hb); have nb_ := ak_ (bs_ (bb_ HB.out) hb); clear BK1 BK6 HS HX1 HG HB hb; have BK1 := n0_; have BK6 := n1_; have HS := n2_; have HX1 := n3_; have HG := n4_; have HB := nb_; clear nb_ n0_ n1_ n2_ n3_ n4_
 clear HY1
 refine hK.out _ _ ⟨(blk_cell BK6.out 0).trans rfl, (blk_cell BK6.out 1).trans rfl, (blk_cell BK6.out 2).trans rfl, (blk_cell BK1.out 0).trans rfl, (blk_cell BK1.out 1).trans rfl, (blk_cell BK1.out 2).trans rfl⟩ (fun hHeld => ?_)
 clear hK K
 refine nm_ ?_
 refine pu_ 4 45 5 31 ?_
 refine done_ (done_of HT_.out (by kernel_rfl)) ?_
 have hq1_0 := (blk_cell BK1.out 0)
 simp at hq1_0
 have hq1_1 := (blk_cell BK1.out 1)
 simp at hq1_1
 have hq1_2 := (blk_cell BK1.out 2)
 simp at hq1_2
 have hq6_0 := (blk_cell BK6.out 0)
 simp at hq6_0
 have hq6_1 := (blk_cell BK6.out 1)
 simp at hq6_1
 have hq6_2 := (blk_cell BK6.out 2)
 simp at hq6_2
 go_upto_region 14 with (go_at_call 36; (with_reducible refine (A36.out (fun k => w22.heap.size ≤ k ∧ k < w24.heap.size) (.slice Ax1 x1.length cx1) w _ (bb_ HB.out) (Kd.pS HX1.out) (fun k hk => Nat.lt_trans hk.2 (Nat.lt_of_le_of_lt (Nat.le_of_eq G6.out.symm) (blk_lt (pk BK6.out))))).mono ?_); rintro e w31 ⟨rfl, hS, hb, hkp⟩; have n0_ := ak_ ((hkp.2 gb1 (blk_lt (pk BK1.out)) (fun h => by have := LT1.out; have := SZ.out; have := SZ3.out; omega)).trans (pk BK1.out)); have n1_ := ak_ (Kd.V_kept (Kd.pV HS.out) hkp (fun k (hk : k < w22.heap.size) h => by have := LT1.out; have := SZ.out; have := SZ3.out; omega)); have n2_ := ak_ (Kd.S_kept (Kd.pS HG.out) hkp (fun k (hk : w25.heap.size ≤ k ∧ k < w26.heap.size) h => by have := LT1.out; have := SZ.out; have := SZ3.out; omega)); have nb_ := ak_ hb; clear BK1 HS HG HX1 BK6 hS HB hb hkp; have BK1 := n0_; have HS := n1_; have HG := n2_; have HB := nb_; clear nb_ n0_ n1_ n2_; have hq1_0 := (blk_cell BK1.out 0); simp at hq1_0; have hq1_1 := (blk_cell BK1.out 1); simp at hq1_1; have hq1_2 := (blk_cell BK1.out 2); simp at hq1_2)
 go_upto_region 16 with ((go_at_call 30; (refine (A26.out _ Ag cg As cs (Kd.S_reads' (Kd.pS HG.out)).2.2 (Kd.S_reads' HG.out).2.1 (Kd.V_reads' (Kd.pV HS.out)).2.2 (Kd.V_reads' HS.out).2.1).mono ?_); rintro e w32 ⟨rfl, hd⟩; have hb := hd.below; clear hd; have n0_ := ak_ (blk_below (pk BK1.out) hb); have n1_ := ak_ (Kd.V_below (Kd.pV HS.out) hb); have n2_ := ak_ (Kd.S_below (Kd.pS HG.out) hb); have nb_ := ak_ (bs_ (bb_ HB.out) hb); clear BK1 HS HG HB hb; have BK1 := n0_; have HS := n1_; have HG := n2_; have HB := nb_; clear nb_ n0_ n1_ n2_; have hq1_0 := (blk_cell BK1.out 0); simp at hq1_0; have hq1_1 := (blk_cell BK1.out 1); simp at hq1_1; have hq1_2 := (blk_cell BK1.out 2); simp at hq1_2))
 go_upto_region 18 with (go_at_call 32; (with_reducible refine (A6.out (fun k => w25.heap.size ≤ k ∧ k < w26.heap.size) (.slice Ag s1.length cg) w _ (bb_ HB.out) (Kd.pS HG.out)).mono ?_); rintro e w33 ⟨rfl, hS, hb, hkp⟩; have n0_ := ak_ ((hkp.2 gb1 (blk_lt (pk BK1.out)) (fun h => by have := LT1.out; have := SZ.out; have := SZ3.out; omega)).trans (pk BK1.out)); have n1_ := ak_ (Kd.V_kept (Kd.pV HS.out) hkp (fun k (hk : k < w22.heap.size) h => by have := LT1.out; have := SZ.out; have := SZ3.out; omega)); clear HG; have HG := ak_ hS; have nb_ := ak_ hb; clear BK1 HS hS HB hb hkp; have BK1 := n0_; have HS := n1_; have HB := nb_; clear nb_ n0_ n1_; have hq1_0 := (blk_cell BK1.out 0); simp at hq1_0; have hq1_1 := (blk_cell BK1.out 1); simp at hq1_1; have hq1_2 := (blk_cell BK1.out 2); simp at hq1_2)
 have hlen := (Kd.S_reads' HG.out).1
 have HH := ak_ fun (W : World) (hS : Kd.S (Kd.slice 3 (Kd.int .i64)) 29 W w.heap.size (fun k => w25.heap.size ≤ k ∧ k < w26.heap.size) (.slice Ag s1.length cg) l') => (show Calls Try.prog 33 #[.slice Ag s1.length cg, .int .i64 1] W fun e w' => e = .returned (.int .i64 q) ∧ Drawn0 W w' by rw [hlen]; exact A9.out W Ag cg (Kd.S_reads' hS).2.2 (by rw [← hlen]; exact (Kd.S_reads' hS).2.1))
 clear hlen
 go_upto_region 24 with ((go_at_call 33; (refine (HH.out _ (Kd.pS HG.out)).mono ?_); rintro e w34 ⟨rfl, hd⟩; have hb := hd.below; clear hd; have n0_ := ak_ (blk_below (pk BK1.out) hb); have n1_ := ak_ (Kd.V_below (Kd.pV HS.out) hb); have n2_ := ak_ (Kd.S_below (Kd.pS HG.out) hb); have nb_ := ak_ (bs_ (bb_ HB.out) hb); clear BK1 HS HG HB hb; have BK1 := n0_; have HS := n1_; have HG := n2_; have HB := nb_; clear nb_ n0_ n1_ n2_; have hq1_0 := (blk_cell BK1.out 0); simp at hq1_0; have hq1_1 := (blk_cell BK1.out 1); simp at hq1_1; have hq1_2 := (blk_cell BK1.out 2); simp at hq1_2))
 go_upto_region 25 with (first | (go_at_call 25; (refine (A7.out _ (bb_ HB.out)).mono ?_); rintro e w35 ⟨v1_, rfl, ho1, hb⟩; obtain ⟨AZ1, cZ1, rfl⟩ := Kd.S_slice ho1; have HZ1 := ak_ ho1; clear ho1; have n0_ := ak_ (blk_below (pk BK1.out) hb); have n1_ := ak_ (Kd.V_below (Kd.pV HS.out) hb); have n2_ := ak_ (Kd.S_below (Kd.pS HG.out) hb); have nb_ := ak_ (bs_ (bb_ HB.out) hb); clear BK1 HS HG HB hb; have BK1 := n0_; have HS := n1_; have HG := n2_; have HB := nb_; clear nb_ n0_ n1_ n2_; have hq1_0 := (blk_cell BK1.out 0); simp at hq1_0; have hq1_1 := (blk_cell BK1.out 1); simp at hq1_1; have hq1_2 := (blk_cell BK1.out 2); simp at hq1_2) | (go_at_call 35; (refine (A10.out _ AZ1 cZ1 (Kd.S_reads' (Kd.pS HZ1.out)).2.2 (Kd.S_reads' HZ1.out).2.1).mono ?_); rintro e w36 ⟨v8, rfl, ho, hb⟩; obtain ⟨Ah, ch, rfl⟩ := Kd.S_slice ho; have HI := ak_ ho; clear ho HZ1; have n0_ := ak_ (Kd.V_below (Kd.pV HS.out) hb); have n1_ := ak_ (Kd.S_below (Kd.pS HG.out) hb); have nb_ := ak_ (bs_ (bb_ HB.out) hb); clear HS HG HB hb; have HS := n0_; have HG := n1_; have HB := nb_; clear nb_ n0_ n1_))
 go_upto_region 27 with ((go_at_call 30; (refine (A26.out _ Ah ch As cs (Kd.S_reads' (Kd.pS HI.out)).2.2 (Kd.S_reads' HI.out).2.1 (Kd.V_reads' (Kd.pV HS.out)).2.2 (Kd.V_reads' HS.out).2.1).mono ?_); rintro e w37 ⟨rfl, hd⟩; have hb := hd.below; clear hd; have n0_ := ak_ (Kd.V_below (Kd.pV HS.out) hb); have n1_ := ak_ (Kd.S_below (Kd.pS HG.out) hb); have nb_ := ak_ (bs_ (bb_ HB.out) hb); clear HS HG HB hb; have HS := n0_; have HG := n1_; have HB := nb_; clear nb_ n0_ n1_))
 go_wp2_with ((go_at_call 33; (refine (HH.out _ (Kd.pS HG.out)).mono ?_); rintro e w38 ⟨rfl, hd⟩; have hb := hd.below; clear hd; have n0_ := ak_ (Kd.S_below (Kd.pS HG.out) hb); have nb_ := ak_ (bs_ (bb_ HB.out) hb); clear HG HB hb; have HG := n0_; have HB := nb_; clear nb_ n0_))
 go_ret
 exact ⟨rfl, (bb_ HB.out)⟩
end Go.Proofs.Ythkchdfkeieabaa.QGr
