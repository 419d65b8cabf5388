/- Contracts of functions of the given program, walked: each call returns what its Lean function says. Conditions: those that stand at each theorem. (Written by a program of this session.) -/
import Derived.Test.YtkgbahokhifojaaQHidx0
import Derived.Test.YtkgbahokhifojaaQHidx5
import Derived.Test.YtkgbahokhifojaaQHidx10
import Derived.Test.YtkgbahokhifojaaQHidx18
namespace Go.Proofs.Ytkgbahokhifojaa.QHid
open Go.RowKit Go.Proofs.YtkgbahokhifojaaW.PrintWords Go.Proofs.YtkgbahokhifojaaW.PrintLast Go.Proofs.YtkgbahokhifojaaW.PrintMore
attribute [local go_sem] max2_int min2_int max_two min_two max_three min_three max_four min_four   -- for this text's walks alone
set_option linter.unusedVariables false
set_option linter.unusedSimpArgs false

set_option maxHeartbeats 8000000 in
set_option maxRecDepth 100000 in
theorem impl_Clue_88.calls_fn (g : Nat) (lb : Array Value) (eg : ∀ args w, (callFunc g args).run Try.prog w = .ok (.enter g args) w) (p : S45 → Option Bool)
    (A : Option Addr) (c : Nat) (l : List (S45)) (w : World) (hr : Kd.C k45 w A l.length l)
    (hp : ∀ (W : World) (x : S45) (r : Bool), Below w.heap.size w W → p x = some r → Calls Try.prog g (#[.agg #[.int .i64 x.f0, .int .i64 x.f1, .int .i64 x.f2]] ++ lb) W fun e w' => e = .returned (.bool r) ∧ Below W.heap.size W w')
    (r : Bool) (h : anyO p l = some r) :
    Calls Try.prog 88 #[.slice A l.length c, .func (.func g) #[] lb] w fun e w' => (∃ i : Int, e = .returned (.int .i64 i) ∧ decide (i ≥ 0) = r) ∧ Below w.heap.size w w' := by
  have HR0 := Aside0.mk hr
  clear hr
  go_enter Try.func88, Try.ntmps88
  go_wp2
  go_loopg [5, 8] l.length (fun gg _ s8 wr => ∃ kk : Nat, kk ≤ l.length ∧ l.length - kk ≤ gg ∧ s8 = .int .i64 kk ∧ Aside0 (Below w.heap.size w wr) ∧ Aside0 (anyO p (l.drop kk) = some r))
  case atStart => exact ⟨0, Nat.zero_le _, by omega, rfl, ⟨Below.refl _ w⟩, ⟨h⟩⟩
  case round =>
    clear h
    obtain ⟨kk, hkk, hg, rfl, BW, A0⟩ := hrel
    have hbig := HR0.out.2.1
    by_cases hlt : kk < l.length
    · have hltz : (kk : Int) < (l.length : Int) := by omega
      have hA := A0.out
      clear A0
      rw [drop_at_st_45 hlt] at hA
      simp only [anyO] at hA
      obtain ⟨b, hb0, hb⟩ := Option.bind_eq_some_iff.mp hA
      clear hA
      obtain ⟨ad, eA, hx0, hx1, hx2⟩ := at_T45 (Kd.C_below HR0.out BW.out) (kk : Int) (by omega) (by omega)
      cases eA
      simp only [Int.toNat_natCast] at hx0 hx1 hx2
      have hcall := hp wr _ b BW.out hb0
      clear hp
      cases b with
      | true =>
        obtain rfl : true = r := by simpa using hb
        go_wp2_with (go_at_fn g; refine hcall.mono ?_; rintro e w' ⟨rfl, hb'⟩)
        go_ret
        exact ⟨⟨_, rfl, by simp⟩, BW.out.trans (hb'.mono BW.out.size)⟩
      | false =>
        have hb2 : anyO p (l.drop (kk + 1)) = some r := by simpa using hb
        have HB2 := Aside0.mk hb2
        clear hb hb2
        go_wp2_with (go_at_fn g; refine hcall.mono ?_; rintro e w' ⟨rfl, hb'⟩)
        go_roundg (l.length - (kk + 1))
        case measure => omega
        case rel => exact ⟨kk + 1, by omega, by omega, by go_num, ⟨BW.out.trans (hb'.mono BW.out.size)⟩, HB2⟩
    · have hltz : ¬ (kk : Int) < (l.length : Int) := by omega
      have : kk = l.length := by omega
      subst this
      have hA := A0.out
      clear A0
      rw [List.drop_length] at hA
      obtain rfl : false = r := by simpa [anyO] using hA
      go_wp2
      go_ret
      exact ⟨⟨_, rfl, by decide⟩, BW.out⟩
set_option maxHeartbeats 8000000 in
set_option maxRecDepth 100000 in
theorem impl_Clue_76.calls_fn (g : Nat) (lb : Array Value) (eg : ∀ args w, (callFunc g args).run Try.prog w = .ok (.enter g args) w) (p : S45 → Option Bool)
    (A : Option Addr) (c : Nat) (l : List (S45)) (w : World) (hr : Kd.C k45 w A l.length l)
    (hp : ∀ (W : World) (x : S45) (r : Bool), Below w.heap.size w W → p x = some r → Calls Try.prog g (#[.agg #[.int .i64 x.f0, .int .i64 x.f1, .int .i64 x.f2]] ++ lb) W fun e w' => e = .returned (.bool r) ∧ Below W.heap.size W w')
    (r : Bool) (h : anyO p l = some r) :
    Calls Try.prog 76 #[.slice A l.length c, .func (.func g) #[] lb] w fun e w' => e = .returned (.bool r) ∧ Below w.heap.size w w' := by
  have hI := Aside0.mk (impl_Clue_88.calls_fn g lb eg p A c l w hr hp r h)
  clear hr hp h
  go_enter Try.func76, Try.ntmps76
  go_wp2_with (go_at_call 88; refine hI.out.mono ?_; rintro e w' ⟨⟨i, rfl, hi⟩, hb'⟩)
  go_ret
  exact ⟨by first | rfl | simp [hi], hb'⟩
/-! ### impl_hidden: function 56, its closures, and impl.notFalling -/
section
variable {P : Program} {ops : Array Oper} {Q : Exit → Act → World → Prop}
theorem goesV_ {oi : Oper} {N : Option Tmp} {a : Act} {w : World} {K : Act → World → Prop} {f : FuncId} {t : Tmp} {as_ : Array Operand} {ts : Array TypeId} {lb : Array Value} (he : ∀ args w, (callFunc f args).run P w = .ok (.enter f args) w) (args : Array Value)
    (hw : Region.wanted oi (yielded ops a.tmps) = true) (hN : oi.dst = N) (hop : oi.op = .call { callee := .value (.tmp t), args := as_, argTypes := ts }) (hv : a.eval (.tmp t) = .func (.func f) #[] lb) (hargs : as_.map a.eval = args)
    (h : Calls P f (args ++ lb) w fun e w' => ∃ v, e = .returned v ∧ K (a.put N v) w') : if Region.wanted oi (yielded ops a.tmps) = true then Oper.wp P oi a w K Q else K (a.put N undef) w := by
  refine call_ f (args ++ lb) hw hN ?_ h
  have he' := he (args ++ lb) w
  unfold execOp
  simp [hop, resolve, Deferred.ofValue, invoke, hv, hargs, he']
end
theorem run_store_fn_ (P : Program) (w : World) (a : Addr) (m : Mode) (fn : Fn) (f c : Array Value) : (store a (.func fn f c) m).run P w = stored P w a (.func fn f c) m := run_store P w a _ m rfl
attribute [local go_sem] run_store_fn_
/-- The closure's captured values. -/
def onB (Bm Be Bt Bo : Nat) : Array Value := #[.pointer (some ⟨Bm, 0, none⟩), .pointer (some ⟨Be, 0, none⟩), .pointer (some ⟨Bt, 0, none⟩), .pointer (some ⟨Bo, 0, none⟩)]
/-- Its variables. -/
structure BX (Bm Be Bt Bo many ne : Nat) (eb : Array Value) (W : World) : Prop where
  m : W.heap[Bm]? = some (.cells #[.int .i64 (many : Int)] 3 (0, 0))
  e : W.heap[Be]? = some (.cells #[.func (.func ne) #[] eb] 65 (0, 0))
  t : W.heap[Bt]? = some (.cells #[.int .i64 6] 3 (0, 0))
  o : W.heap[Bo]? = some (.cells #[.func (.func 87) #[] (onB Bm Be Bt Bo)] 65 (0, 0))
theorem BX.fr {Bm Be Bt Bo many ne g : Nat} {eb : Array Value} {W w' : World} {cg : Array Value} (h : BX Bm Be Bt Bo many ne eb W) (hf : LkFr g W w') (hg : W.heap[g]? = some (.cells cg 54 (0, 0))) : BX Bm Be Bt Bo many ne eb w' :=
  ⟨hf.blk h.m hg (by decide) (by decide), hf.blk h.e hg (by decide) (by decide), hf.blk h.t hg (by decide) (by decide), hf.blk h.o hg (by decide) (by decide)⟩
/-- What a list that is long enough is handed to. -/
def Each (g gc many ne : Nat) (vc : Value) (eb : Array Value) (p : List Int → Option Bool) (w0 : World) : Prop :=
  ∀ (W : World) (v vL : Value) (l : List Int) (acc : List (List Int)) (b : Bool), LkSt g w0 W v (fun k => some k ≠ vL.ownBlock) acc → W.heap[gc]? = some (.cells #[vc] 29 (0, 0)) → (Kd.int .i64).R 3 W w0.heap.size (fun _ => True) vL l → l.length = many → p l = some b → (b = true → acc.length < 1000000) →
    Calls Try.prog ne (#[vL] ++ eb) W fun e w' => e = .returned (.bool true) ∧ ∃ v', LkSt g w0 w' v' (fun _ => True) (if b = true then acc ++ [l] else acc) ∧ LkFr g W w'
def impl_notFalling_1.T9 : Bool × List (List Nat × List Nat) := (true, [([], []), ([], []), ([1], [1]), ([], []), ([3], [3]), ([2, 4, 2], [2, 4]), ([0, 5, 5], [0, 5]), ([6], [6])])
def impl_notFalling_1.B9 : List Nat := [0, 0, 2, 0, 8, 30, 63, 127]
theorem impl_notFalling_1.T9_ : rtab .any (opsOf Try.f87 9) = impl_notFalling_1.T9 := by kernel_rfl
theorem impl_notFalling_1.B9_ : waitsOk impl_notFalling_1.T9.2 impl_notFalling_1.B9 = true := by kernel_rfl
set_option maxHeartbeats 8000000 in
set_option maxRecDepth 100000 in
theorem on_leaf (g gc many ne : Nat) (vc : Value) (eb : Array Value) (p : List Int → Option Bool) (w0 : World) (Bm Be Bt Bo : Nat) (ee : ∀ args w, (callFunc ne args).run Try.prog w = .ok (.enter ne args) w) (hE : Each g gc many ne vc eb p w0)
    (l : List Int) (vL v : Value) (acc acc' : List (List Int)) (W : World) (hl : l.length = many) (hst : LkSt g w0 W v (fun k => some k ≠ vL.ownBlock) acc) (hc : W.heap[gc]? = some (.cells #[vc] 29 (0, 0))) (hr : (Kd.int .i64).R 3 W w0.heap.size (fun _ => True) vL l) (hbx : BX Bm Be Bt Bo many ne eb W) (h : look p 0 l acc = some acc') :
    Calls Try.prog 87 (#[vL] ++ onB Bm Be Bt Bo) W fun e w' => e = .returned (.bool true) ∧ ∃ v', LkSt g w0 w' v' (fun _ => True) acc' ∧ LkFr g W w' := by
  have HE := Aside0.mk (show ∀ w1, Below W.heap.size W w1 → Calls Try.prog ne (#[vL] ++ eb) w1 fun e w' => e = .returned (.bool true) ∧ ∃ v', LkSt g w0 w' v' (fun _ => True) acc' ∧ LkFr g W w' by
    intro w1 hb
    unfold look at h
    obtain ⟨b, hb0, h⟩ := Option.bind_eq_some_iff.mp h
    have hlen : b = true → acc.length < 1000000 := by
      rintro rfl
      rw [if_pos rfl] at h
      by_cases c : acc.length < 1000000
      · exact c
      · rw [if_neg c] at h; exact absurd h (by simp)
    refine (hE w1 v vL l acc b (hst.up hb) (blk_below hc hb) (Kd.R_below hr hb) hl hb0 hlen).mono ?_
    rintro e w' ⟨rfl, v', h1, h2⟩
    refine ⟨rfl, v', ?_, (LkFr.below hb).trans h2⟩
    cases b with
    | true =>
      rw [if_pos rfl, if_pos (hlen rfl)] at h
      obtain rfl := Option.some.inj h
      exact h1
    | false =>
      rw [if_neg (by simp)] at h
      obtain rfl := Option.some.inj h
      exact h1)
  obtain ⟨A0, c0, rfl, -, -⟩ := row_C hr
  have hm0 := (blk_cell hbx.m 0)
  have he0 := (blk_cell hbx.e 0)
  simp at hm0
  simp at he0
  clear hst hc hr hbx h hE
  subst hl
  unfold onB
  go_enter Try.func87, Try.ntmps87
  go_wp2_with (go_at_fn ne; refine (HE.out _ (by repeat (first | exact Below.refl _ _ | apply pw_below_drewN | apply below_drew1))).mono ?_; rintro e w' ⟨rfl, hx⟩)
  go_ret
  exact ⟨rfl, hx⟩
set_option maxHeartbeats 8000000 in
set_option maxRecDepth 100000 in
theorem on_step (g gc many ne : Nat) (vc : Value) (eb : Array Value) (p : List Int → Option Bool) (w0 : World) (Bm Be Bt Bo d : Nat) (hmany : many ≤ 100)
    (hI : ∀ (l : List Int) (vL v : Value) (acc acc' : List (List Int)) (W : World), l.length + d = many → (∀ y ∈ l, 1 ≤ y) → LkSt g w0 W v (fun k => some k ≠ vL.ownBlock) acc → W.heap[gc]? = some (.cells #[vc] 29 (0, 0)) → (Kd.int .i64).R 3 W w0.heap.size (fun _ => True) vL l → BX Bm Be Bt Bo many ne eb W → look p d l acc = some acc' →
      Calls Try.prog 87 (#[vL] ++ onB Bm Be Bt Bo) W fun e w' => e = .returned (.bool true) ∧ ∃ v', LkSt g w0 w' v' (fun _ => True) acc' ∧ LkFr g W w')
    (l : List Int) (vL v : Value) (acc acc' : List (List Int)) (W : World) (hl : l.length + (d + 1) = many) (hpos : ∀ y ∈ l, 1 ≤ y) (hst : LkSt g w0 W v (fun k => some k ≠ vL.ownBlock) acc) (hc : W.heap[gc]? = some (.cells #[vc] 29 (0, 0))) (hr : (Kd.int .i64).R 3 W w0.heap.size (fun _ => True) vL l) (hbx : BX Bm Be Bt Bo many ne eb W) (h : look p (d + 1) l acc = some acc') :
    Calls Try.prog 87 (#[vL] ++ onB Bm Be Bt Bo) W fun e w' => e = .returned (.bool true) ∧ ∃ v', LkSt g w0 w' v' (fun _ => True) acc' ∧ LkFr g W w' := by
  obtain ⟨A0, c0, rfl, hle, hC⟩ := row_C hr
  have HLC := Aside0.mk (And.intro hle hC)
  have ST := Aside0.mk hst.any
  have CL := Aside0.mk hc
  have RL := Aside0.mk hr
  have BB := Aside0.mk hbx
  have HI := Aside0.mk hI
  have HP := Aside0.mk hpos
  have HM := Aside0.mk (And.intro hl hmany)
  have H := Aside0.mk (show lkRounds (fun x a => look p d (l ++ [x]) a) (7 - leastOf l).toNat (leastOf l) acc = some acc' from h)
  have hx1 := leastOf_ge hpos
  have HCl := Aside0.mk fun (W1 : World) (h1 : Below W.heap.size W W1) => slices_Clone_int_int.calls A0 c0 l l W1 (Kd.C_below hC h1) hle (by unfold slices_Clone_int_int.f; rw [if_pos (by omega)])
  have HCl2 := Aside0.mk fun (W1 : World) (h1 : (Kd.int .i64).R 3 W1 w0.heap.size (fun _ => True) (.slice A0 l.length c0) l) => slices_Clone_int_int.calls A0 c0 l l W1 (Kd.R_reads' h1).2.2 hle (by unfold slices_Clone_int_int.f; rw [if_pos (by omega)])
  have hm0 := (blk_cell hbx.m 0)
  simp at hm0
  have k0 : ((l.length : Int) == (many : Int)) = false := beq_eq_false_iff_ne.mpr (by omega)
  have k1 : (l.length == many) = false := beq_eq_false_iff_ne.mpr (by omega)
  have k2 : ¬ (l.length = many) := by omega
  clear hl hmany hI hpos hst hc hr hbx h hle hC HCl
  unfold onB at HI ⊢
  go_enter Try.func87, Try.ntmps87
  go_upto_if 18 with (fail)
  go_cut [7] (fun v7 wc => v7 = .int .i64 (leastOf l) ∧ Aside0 (Below W.heap.size W wc))
  case first =>
    have hC := HLC.out.2
    have HM1 := HM.out
    clear HLC ST CL RL BB HI HP HM H HCl2 hx1 hm0 k0 k1 k2
    by_cases hn : l.length = 0
    · have E := Aside0.mk (show leastOf l = 1 from if_pos hn)
      have c1 : decide ((0 : Int) < (l.length : Int)) = false := decide_eq_false (by omega)
      have c2 : decide (0 < l.length) = false := decide_eq_false (by omega)
      have c3 : ¬ 0 < l.length := by omega
      clear hC HM1 hn
      go_wp2
      go_meet
      case rel => exact ⟨by rw [E.out], ⟨by repeat (first | exact Below.refl _ _ | apply pw_below_drewN | apply below_drew1)⟩⟩
    · have e : leastOf l = rd l ((l.length : Int) - 1) := if_neg hn
      obtain ⟨ad, rfl, hx0⟩ := Kd.at_int hC ((l.length : Int) - 1) (by omega) (by omega)
      have c1 : decide ((0 : Int) < (l.length : Int)) = true := decide_eq_true (by omega)
      have c2 : decide (0 < l.length) = true := decide_eq_true (by omega)
      have c3 : 0 < l.length := by omega
      generalize rd l ((l.length : Int) - 1) = x0 at hx0 e
      have E := Aside0.mk e
      clear e
      obtain ⟨m, hm⟩ : ∃ m : Nat, (l.length : Int) - 1 = (m : Int) := ⟨l.length - 1, by omega⟩
      have hw : IntKind.i64.wrap ((l.length : Int) - 1) = (m : Int) := by rw [hm]; exact IntWalk.i64_in _ ⟨by omega, by omega⟩
      have hml : decide ((m : Int) < (l.length : Int)) = true := decide_eq_true (by omega)
      have hml1 : (m : Int) < (l.length : Int) := by omega
      have hml2 : m < l.length := by omega
      rw [hm, Int.toNat_natCast] at hx0
      clear hC HM1 hn hm
      go_wp2
      go_meet
      case rel => exact ⟨by rw [E.out], ⟨by repeat (first | exact Below.refl _ _ | apply pw_below_drewN | apply below_drew1)⟩⟩
  obtain ⟨rfl, HB⟩ := hcut
  have n0_ := Aside0.mk (ST.out.up HB.out)
  have n1_ := Aside0.mk (blk_below CL.out HB.out)
  have n2_ := Aside0.mk (Kd.R_below RL.out HB.out)
  have n3_ := Aside0.mk (BB.out.fr (LkFr.below HB.out) ST.out.out)
  have n4_ := Aside0.mk (LkFr.below (g := g) HB.out)
  clear ST CL RL BB HB HLC hm0 k0 k1 k2
  have ST := n0_; have CL := n1_; have RL := n2_; have BB := n3_; have FR := n4_
  clear n0_ n1_ n2_ n3_ n4_
  generalize leastOf l = x0 at H hx1 ⊢
  go_wp2
  have hs := Aside0.mk hx1
  clear hx1
  go_loopg [8] (7 - x0).toNat (fun gg v8 wr => ∃ (x : Int) (a1 : List (List Int)) (v1 : Value), v8 = .int .i64 x ∧ (7 - x).toNat ≤ gg ∧ 1 ≤ x ∧ Aside0 (lkRounds (fun x a => look p d (l ++ [x]) a) (7 - x).toNat x a1 = some acc') ∧ Aside0 (LkSt g w0 wr v1 (fun _ => True) a1) ∧ Aside0 (wr.heap[gc]? = some (.cells #[vc] 29 (0, 0))) ∧ Aside0 ((Kd.int .i64).R 3 wr w0.heap.size (fun _ => True) (.slice A0 l.length c0) l) ∧ Aside0 (BX Bm Be Bt Bo many ne eb wr) ∧ Aside0 (LkFr g W wr))
  case atStart => exact ⟨x0, acc, v, rfl, Nat.le_refl _, hs.out, H, ⟨ST.out.up (by repeat (first | exact Below.refl _ _ | apply pw_below_drewN | apply below_drew1 | apply below_alloc))⟩, ⟨blk_below CL.out (by repeat (first | exact Below.refl _ _ | apply pw_below_drewN | apply below_drew1 | apply below_alloc))⟩, ⟨Kd.R_below RL.out (by repeat (first | exact Below.refl _ _ | apply pw_below_drewN | apply below_drew1 | apply below_alloc))⟩, ⟨BB.out.fr (LkFr.below (by repeat (first | exact Below.refl _ _ | apply pw_below_drewN | apply below_drew1 | apply below_alloc))) ST.out.out⟩, ⟨FR.out.trans (LkFr.below (by repeat (first | exact Below.refl _ _ | apply pw_below_drewN | apply below_drew1 | apply below_alloc)))⟩⟩
  case round =>
    clear H ST CL RL BB FR hs
    obtain ⟨x, a1, v1, rfl, hg, hx1, H, ST, CL, RL, BB, FR⟩ := hrel
    have ht0 := (blk_cell BB.out.t 0)
    simp at ht0
    by_cases hlt : x ≤ 6
    · have q1 : decide (x ≤ 6) = true := decide_eq_true hlt
      obtain ⟨n, hn⟩ : ∃ n, (7 - x).toNat = n + 1 := ⟨(7 - x).toNat - 1, by omega⟩
      have h := H.out
      rw [hn] at h
      simp only [lkRounds] at h
      obtain ⟨a2, h1, h2⟩ := Option.bind_eq_some_iff.mp h
      rw [show n = (7 - (x + 1)).toNat by omega] at h2
      have hw : IntKind.i64.wrap (x + 1) = x + 1 := IntWalk.i64_in _ ⟨by omega, by omega⟩
      have H2 := Aside0.mk h2
      have H1 := Aside0.mk h1
      have HN := Aside0.mk (And.intro hn (And.intro hg (And.intro hx1 hlt)))
      clear h h1 h2 H hn hg hx1 hlt
      go_upto_region 9 with (fail)
      clear ht0
      try go_wp2
      have n0_ := Aside0.mk (ST.out.up (below_drew (Below.refl _ _)))
      have n1_ := Aside0.mk (blk_drew CL.out)
      have n2_ := Aside0.mk (Kd.R_drew RL.out)
      have n3_ := Aside0.mk (BB.out.fr (LkFr.below (below_drew (Below.refl _ _))) ST.out.out)
      have n4_ := Aside0.mk (FR.out.trans (LkFr.below (below_drew (Below.refl _ _))))
      clear ST CL RL BB FR
      have ST := n0_; have CL := n1_; have RL := n2_; have BB := n3_; have FR := n4_
      clear n0_ n1_ n2_ n3_ n4_
      refine start_ (n := 8) (S := fun w' => w'.cell? ⟨Bo, 0, none⟩ = some (.func (.func 87) #[] (onB Bm Be Bt Bo))) (ds := []) #[false, false, false, false, false, false, false, false] (by kernel_rfl) rfl rfl (blk_cell BB.out.o 0) (fun hHeld => ?_); refine with_tabW impl_notFalling_1.T9_ impl_notFalling_1.B9_ (fun HT_ HW_ => ?_)
      generalize wr.drew = w9 at ST CL RL BB FR hHeld ⊢
      refine pure_ (i := 1) (N := some 32) (v := ?_) (a' := ?_) #[false, true, false, false, false, false, false, false] rfl rfl (any_of HT_.out (by kernel_rfl)) (fun _ _ _ h => h) (Or.inl ⟨by rfl, ?_⟩) ?_ ?_
      rotate_left
      · intro w'
        go_simp
        with_reducible rfl
      rotate_left
      · simp only [Act.put, List.setIfInBounds_toArray, List.set_cons_zero, List.set_cons_succ, i64_w, i32_w]
        rfl
      refine pure_ (i := 3) (N := some 34) (v := ?_) (a' := ?_) #[false, true, false, true, false, false, false, false] rfl rfl (any_of HT_.out (by kernel_rfl)) (fun _ _ _ h => h) (Or.inl ⟨by rfl, ?_⟩) ?_ ?_
      rotate_left
      · intro w'
        go_simp
        with_reducible rfl
      rotate_left
      · simp only [Act.put, List.setIfInBounds_toArray, List.set_cons_zero, List.set_cons_succ, i64_w, i32_w]
        rfl
      refine take_ (i := 0) (N := some 31) (v := ?_) (a' := ?_) #[true, true, false, true, false, false, false, false] rfl rfl (take_ofW HT_.out HW_.out (by kernel_rfl)) (fun _ _ _ h => h) (Or.inl ⟨by rfl, ?_⟩) hHeld ?_ ?_
      rotate_left
      · rintro w' s0
        go_simp
        with_reducible rfl
      rotate_left
      · simp only [Act.put, List.setIfInBounds_toArray, List.set_cons_zero, List.set_cons_succ, i64_w, i32_w]
        rfl
      refine join_ (σ := Value × Value) 3 #[true, true, true, true, true, false, false, false] (fun s_ => [(33, s_.1), (35, s_.2)]) (fun s_ w' => (w'.cell? ⟨Bo, 0, none⟩ = some (.func (.func 87) #[] (onB Bm Be Bt Bo))) ∧ (Kd.int .i64).R 3 w' w9.heap.size (fun _ => True) s_.1 l ∧ (∃ A c, s_.2 = .slice A 1 c ∧ (Kd.int .i64).C w' A 1 [x]) ∧ Below w9.heap.size w9 w') ?_ ?_
      rotate_left
      · intro hCont
        refine two_ (i := 2) (j := 4) (Ni := some 33) (Nj := some 35) #[true, true, true, true, false, false, false, false] #[true, true, false, true, true, false, false, false] rfl rfl rfl rfl (two_of HT_.out (by kernel_rfl)) (by decide) (by decide) (fun K hK => ?_) (fun K hK => ?_)
        · refine goes_ Try.func51 (by kernel_rfl) rfl #[.slice A0 l.length c0] (by rfl) rfl rfl (by (try simp only [List.map_toArray, List.map_cons, List.map_nil]); first | done | rfl | (simp only [List.length_drop, List.length_take]; rfl)) ?_
          refine (HCl2.out _ RL.out).mono ?_
          rintro e w5 ⟨s1, rfl, hR0, hb0⟩
          have hR := Aside0.mk hR0
          have hb1 := Aside0.mk hb0
          clear hR0
          refine ⟨_, rfl, ?_⟩
          refine hK.out _ _ (blk_cell (blk_below BB.out.o hb1.out) 0) (fun hHeld => ?_)
          clear hK K
          refine norm_ (a' := ?_) ?_ ?_
          rotate_left
          · show Act.put _ (some 33) _ = _
            simp only [Act.put, List.setIfInBounds_toArray, List.set_cons_zero, List.set_cons_succ, i64_w, i32_w]
            rfl
          refine one_ (i := 4) (N := some 35) #[true, true, true, true, true, false, false, false] rfl rfl (one_of HT_.out (by kernel_rfl)) (by decide) (fun K hK => ?_)
          refine Kd.R_lit_step (Kd.int .i64) _ 3 ?hg (N := 35) ?hd (xs := [x]) (inner := [.int .i64 x]) (ok := fun _ => True) (okp := fun _ => True) ?hr ?hp (fun _ hk => hk) trivial (Below.refl _ _) (Nat.le_refl _) (by simp) ?_; (case hd => rfl); (case hg => rfl); (case hr => first | (go_simp; done) | (go_simp; rfl)); (case hp => exact (Reps.one (show Kd.M (Kd.int .i64) _ _ _ x [.int .i64 x] from rfl) (Reps.none _ _)))
          intro s2 w6 ho0 hb0 hg_ hnew_
          clear hg_ hnew_
          have hO := Aside0.mk ho0
          have hb3 := Aside0.mk hb0; have hb2 := Aside0.mk (below_step hb1.out hb0)
          clear ho0 hb0
          refine hK.out _ _ (blk_cell (blk_below BB.out.o hb2.out) 0) (fun hHeld => ?_)
          clear hK K
          refine norm_ (a' := ?_) ?_ ?_
          rotate_left
          · show Act.put _ (some 35) _ = _
            simp only [Act.put, List.setIfInBounds_toArray, List.set_cons_zero, List.set_cons_succ, i64_w, i32_w]
            rfl
          exact norm_ (by simp only [putAll, Act.put, List.setIfInBounds_toArray, List.set_cons_zero, List.set_cons_succ]) (hCont (s1, s2) _ ⟨hHeld, Kd.R_below hR.out hb3.out, (by obtain ⟨A2, c2, rfl⟩ := Kd.R_slice hO.out; exact ⟨A2, c2, rfl, (Kd.R_reads' hO.out).2.2⟩), hb2.out⟩)
        · refine Kd.R_lit_step (Kd.int .i64) _ 3 ?hg (N := 35) ?hd (xs := [x]) (inner := [.int .i64 x]) (ok := fun _ => True) (okp := fun _ => True) ?hr ?hp (fun _ hk => hk) trivial (Below.refl _ _) (Nat.le_refl _) (by simp) ?_; (case hd => rfl); (case hg => rfl); (case hr => first | (go_simp; done) | (go_simp; rfl)); (case hp => exact (Reps.one (show Kd.M (Kd.int .i64) _ _ _ x [.int .i64 x] from rfl) (Reps.none _ _)))
          intro s2 w5 ho0 hb0 hg_ hnew_
          clear hg_ hnew_
          have hO := Aside0.mk ho0
          have hb1 := Aside0.mk hb0
          clear ho0
          refine hK.out _ _ (blk_cell (blk_below BB.out.o hb1.out) 0) (fun hHeld => ?_)
          clear hK K
          refine norm_ (a' := ?_) ?_ ?_
          rotate_left
          · show Act.put _ (some 35) _ = _
            simp only [Act.put, List.setIfInBounds_toArray, List.set_cons_zero, List.set_cons_succ, i64_w, i32_w]
            rfl
          refine one_ (i := 2) (N := some 33) #[true, true, true, true, true, false, false, false] rfl rfl (one_of HT_.out (by kernel_rfl)) (by decide) (fun K hK => ?_)
          refine goes_ Try.func51 (by kernel_rfl) rfl #[.slice A0 l.length c0] (by rfl) rfl rfl (by (try simp only [List.map_toArray, List.map_cons, List.map_nil]); first | done | rfl | (simp only [List.length_drop, List.length_take]; rfl)) ?_
          refine (HCl2.out _ (Kd.R_below RL.out hb1.out)).mono ?_
          rintro e w6 ⟨s1, rfl, hR0, hb0⟩
          have hR := Aside0.mk hR0
          have hb3 := Aside0.mk hb0; have hb2 := Aside0.mk (below_step hb1.out hb0)
          clear hR0 hb0
          refine ⟨_, rfl, ?_⟩
          refine hK.out _ _ (blk_cell (blk_below BB.out.o hb2.out) 0) (fun hHeld => ?_)
          clear hK K
          refine norm_ (a' := ?_) ?_ ?_
          rotate_left
          · show Act.put _ (some 33) _ = _
            simp only [Act.put, List.setIfInBounds_toArray, List.set_cons_zero, List.set_cons_succ, i64_w, i32_w]
            rfl
          exact norm_ (by simp only [putAll, Act.put, List.setIfInBounds_toArray, List.set_cons_zero, List.set_cons_succ]) (hCont (s1, s2) _ ⟨hHeld, Kd.R_lower hR.out hb1.out.size, (by obtain ⟨A2, c2, rfl⟩ := Kd.R_slice (Kd.R_below hO.out hb3.out); exact ⟨A2, c2, rfl, (Kd.R_reads' (Kd.R_below hO.out hb3.out)).2.2⟩), hb2.out⟩)
      rintro ⟨s1, s2⟩ w2 ⟨hHeld, h1_, ⟨A2, c2, h2_, h3_⟩, h4_⟩
      dsimp only at h1_ h2_
      subst h2_
      have hR := Aside0.mk h1_
      have hL := Aside0.mk h3_
      have hB := Aside0.mk h4_
      clear h1_ h3_ h4_
      refine norm_ (a' := ?_) ?_ ?_
      rotate_left
      · simp only [putAll, Act.put, List.setIfInBounds_toArray, List.set_cons_zero, List.set_cons_succ]
        rfl
      refine one_ (i := 5) (N := some 36) #[true, true, true, true, true, true, false, false] rfl rfl (one_of HT_.out (by kernel_rfl)) (by decide) (fun K hK => ?_)
      refine Kd.R_append_rows_step (Kd.int .i64) (w0 := w9) w9.heap.size (by rfl) (.tmp 33) (.tmp 35) 26 3 (.int .i64 0) 8 rfl Try.underlying26 info3 rfl (by decide) (by omega) s1 l [x] A2 1 c2 (fun _ => True) (fun _ => False) rfl rfl ?aO ?aR (fun _ _ h => h) (fun _ h => h.elim) ?aF ?aB ?aS ?aL ?_
      (case aO => exact hR.out)
      (case aR => exact hL.out)
      (case aB => exact hB.out)
      (case aF => exact (fun _ _ => trivial))
      (case aS => exact hB.out.size)
      (case aL => have := HM.out; omega)
      intro v3 w3 ho hb hg_ hat_
      clear hg_ hat_ hR hL hB
      have n0_ := Aside0.mk ((ST.out.old (u := v3) (Kd.R_base ho)).up hb)
      have n1_ := Aside0.mk (blk_below CL.out hb)
      have n2_ := Aside0.mk (Kd.R_below RL.out hb)
      have n3_ := Aside0.mk (BB.out.fr (LkFr.below hb) ST.out.out)
      have n4_ := Aside0.mk (FR.out.trans (LkFr.below hb))
      have HO := Aside0.mk (Kd.R_lower (Kd.R_mono ho (fun _ _ => trivial)) (below_size ST.out.bel))
      clear ST CL RL BB FR ho hb
      have ST := n0_; have CL := n1_; have RL := n2_; have BB := n3_; have FR := n4_
      clear n0_ n1_ n2_ n3_ n4_
      refine hK.out _ _ (blk_cell BB.out.o 0) (fun hHeld => ?_)
      clear hK K
      refine norm_ (a' := ?_) ?_ ?_
      rotate_left
      · show Act.put _ (some 36) _ = _
        simp only [Act.put, List.setIfInBounds_toArray, List.set_cons_zero, List.set_cons_succ, i64_w, i32_w]
        rfl
      refine one_ (i := 6) (N := some 37) #[true, true, true, true, true, true, true, false] rfl rfl (one_of HT_.out (by kernel_rfl)) (by decide) (fun K hK => ?_)
      refine goesV_ (enters_of Try.func87 (by kernel_rfl) rfl) #[v3] (by rfl) rfl rfl rfl (by (try simp only [List.map_toArray, List.map_cons, List.map_nil]); first | done | rfl) ?_
      refine (HI.out (l ++ [x]) v3 v1 a1 a2 w3 (by have := HM.out; simp; omega) (by intro y hy; rw [List.mem_append, List.mem_singleton] at hy; obtain hy | rfl := hy; exact HP.out y hy; have := HN.out; omega) ST.out CL.out HO.out BB.out H1.out).mono ?_
      rintro e w4 ⟨rfl, v4, hst4, hfr4⟩
      refine ⟨_, rfl, ?_⟩
      have n0_ := Aside0.mk hst4
      have n1_ := Aside0.mk (hfr4.blk CL.out ST.out.out (by decide) (by decide))
      have n2_ := Aside0.mk (hfr4.row ST.out.out RL.out)
      have n3_ := Aside0.mk (BB.out.fr hfr4 ST.out.out)
      have n4_ := Aside0.mk (FR.out.trans hfr4)
      clear ST CL RL BB FR HO hst4 hfr4
      have ST := n0_; have CL := n1_; have RL := n2_; have BB := n3_; have FR := n4_
      clear n0_ n1_ n2_ n3_ n4_
      refine hK.out _ _ (blk_cell BB.out.o 0) (fun hHeld => ?_)
      clear hK K
      refine norm_ (a' := ?_) ?_ ?_
      rotate_left
      · show Act.put _ (some 37) _ = _
        simp only [Act.put, List.setIfInBounds_toArray, List.set_cons_zero, List.set_cons_succ, i64_w, i32_w]
        rfl
      refine pure_ (i := 7) (N := some 38) (v := ?_) (a' := ?_) #[true, true, true, true, true, true, true, true] rfl rfl (any_of HT_.out (by kernel_rfl)) (fun _ _ _ h => h) (Or.inl ⟨by rfl, ?_⟩) ?_ ?_
      rotate_left
      · intro w'
        go_simp
        with_reducible rfl
      rotate_left
      · simp only [Act.put, List.setIfInBounds_toArray, List.set_cons_zero, List.set_cons_succ, i64_w, i32_w]
        rfl
      refine done_ (done_of HT_.out (by kernel_rfl)) ?_
      try go_wp2
      go_roundg n
      case measure => have := HN.out; omega
      case rel => exact ⟨x + 1, a2, v4, (by first | rfl | (simp; done) | (simp [*]; done)), by have := HN.out; omega, by have := HN.out; omega, H2, ⟨ST.out.up (by repeat (first | exact Below.refl _ _ | apply pw_below_drewN | apply below_drew1 | apply below_alloc))⟩, ⟨blk_below CL.out (by repeat (first | exact Below.refl _ _ | apply pw_below_drewN | apply below_drew1 | apply below_alloc))⟩, ⟨Kd.R_below RL.out (by repeat (first | exact Below.refl _ _ | apply pw_below_drewN | apply below_drew1 | apply below_alloc))⟩, ⟨BB.out.fr (LkFr.below (by repeat (first | exact Below.refl _ _ | apply pw_below_drewN | apply below_drew1 | apply below_alloc))) ST.out.out⟩, ⟨FR.out.trans (LkFr.below (by repeat (first | exact Below.refl _ _ | apply pw_below_drewN | apply below_drew1 | apply below_alloc)))⟩⟩
    · have q1 : decide (x ≤ 6) = false := decide_eq_false hlt
      have h := H.out
      rw [show (7 - x).toNat = 0 by omega] at h
      obtain rfl := Option.some.inj h
      clear h H hg hx1 hlt
      go_wp2
      go_ret
      exact ⟨rfl, ⟨v1, ST.out.up (by repeat (first | exact Below.refl _ _ | apply pw_below_drewN | apply below_drew1 | apply below_alloc))⟩, FR.out.trans (LkFr.below (by repeat (first | exact Below.refl _ _ | apply pw_below_drewN | apply below_drew1 | apply below_alloc)))⟩
theorem on_calls (g gc many ne : Nat) (vc : Value) (eb : Array Value) (p : List Int → Option Bool) (w0 : World) (Bm Be Bt Bo : Nat) (hmany : many ≤ 100) (ee : ∀ args w, (callFunc ne args).run Try.prog w = .ok (.enter ne args) w) (hE : Each g gc many ne vc eb p w0) :
    ∀ (d : Nat) (l : List Int) (vL v : Value) (acc acc' : List (List Int)) (W : World), l.length + d = many → (∀ y ∈ l, 1 ≤ y) → LkSt g w0 W v (fun k => some k ≠ vL.ownBlock) acc → W.heap[gc]? = some (.cells #[vc] 29 (0, 0)) → (Kd.int .i64).R 3 W w0.heap.size (fun _ => True) vL l → BX Bm Be Bt Bo many ne eb W → look p d l acc = some acc' →
      Calls Try.prog 87 (#[vL] ++ onB Bm Be Bt Bo) W fun e w' => e = .returned (.bool true) ∧ ∃ v', LkSt g w0 w' v' (fun _ => True) acc' ∧ LkFr g W w'
  | 0, l, vL, v, acc, acc', W, h1, _, h3, h4, h5, h6, h7 => on_leaf g gc many ne vc eb p w0 Bm Be Bt Bo ee hE l vL v acc acc' W h1 h3 h4 h5 h6 h7
  | d + 1, l, vL, v, acc, acc', W, h1, h2, h3, h4, h5, h6, h7 => on_step g gc many ne vc eb p w0 Bm Be Bt Bo d hmany (on_calls g gc many ne vc eb p w0 Bm Be Bt Bo hmany ee hE d) l vL v acc acc' W h1 h2 h3 h4 h5 h6 h7
set_option maxHeartbeats 8000000 in
set_option maxRecDepth 100000 in
/-- impl.notFalling, up to six. -/
theorem notFalling_calls (g gc ne many : Nat) (vc : Value) (eb : Array Value) (p : List Int → Option Bool) (w0 : World) (hmany : many ≤ 100) (ee : ∀ args w, (callFunc ne args).run Try.prog w = .ok (.enter ne args) w) (hE : Each g gc many ne vc eb p w0)
    (v : Value) (acc' : List (List Int)) (W : World) (hst : LkSt g w0 W v (fun _ => True) []) (hc : W.heap[gc]? = some (.cells #[vc] 29 (0, 0))) (h : look p many [] [] = some acc') :
    Calls Try.prog 74 #[.int .i64 (many : Int), .int .i64 6, .func (.func ne) #[] eb] W fun e w' => e = .returned (.tuple #[]) ∧ ∃ v', LkSt g w0 w' v' (fun _ => True) acc' ∧ LkFr g W w' := by
  have ST := Aside0.mk hst
  have CL := Aside0.mk hc
  have FR := Aside0.mk (Below.refl W.heap.size W)
  have HO := Aside0.mk fun (W1 : World) (hb : Below W.heap.size W W1) (Bm Be Bt Bo : Nat) (hx : BX Bm Be Bt Bo many ne eb W1) =>
    on_calls g gc many ne vc eb p w0 Bm Be Bt Bo hmany ee hE many [] (.slice none 0 0) v [] acc' W1 (by simp) (by simp) ((hst.up hb).mono (fun k _ => by simp [Value.ownBlock])) (blk_below hc hb) (Kd.R_nil _ _ _ _ _) hx h
  clear hst hc hE h hmany
  unfold onB at HO
  go_enter Try.func74, Try.ntmps74
  go_upto_region 3 with (first | ((with_reducible refine gate_dst (N := 3) rfl ?_); refine box_event ?hg (N := 3) ?hd (cs := #[.int .i64 (many : Int)]) (t := 3) ?hr ?_; (case hd => rfl); (case hg => rfl); (case hr => first | (go_simp; done) | (go_simp; rfl)); intro gb3 hg w3 hbox hb; have nb_ := Aside0.mk (below_step (by repeat (first | (with_reducible first | exact FR.out | apply below_alloc | apply pw_below_drewN | apply below_drew1) | exact FR.out)) hb); have nc_ := Aside0.mk hbox; have nd_ := Aside0.mk ((by rw [hg]; exact (below_size (by repeat (first | (with_reducible first | exact FR.out | apply below_alloc | apply pw_below_drewN | apply below_drew1) | exact FR.out))) : W.heap.size ≤ gb3)); clear FR hb hbox hg; have FR := nb_; have BK3 := nc_; have GE3 := nd_; clear nb_ nc_ nd_; have hz3_0 := (blk_cell BK3.out 0); have hf3_0 := (blk_frozen BK3.out 0); simp at hz3_0; skip) | ((with_reducible refine gate_dst (N := 4) rfl ?_); refine box_event ?hg (N := 4) ?hd (cs := #[.int .i64 6]) (t := 3) ?hr ?_; (case hd => rfl); (case hg => rfl); (case hr => first | (go_simp; done) | (go_simp; rfl)); intro gb4 hg w4 hbox hb; have n0_ := Aside0.mk (blk_below (pk BK3.out) hb); have m0_ := Aside0.mk ((by rw [hg]; exact Nat.ne_of_lt (blk_lt (pk BK3.out)) : gb3 ≠ gb4)); have nb_ := Aside0.mk (below_step (by repeat (first | (with_reducible first | exact FR.out | apply below_alloc | apply pw_below_drewN | apply below_drew1) | exact FR.out)) hb); have nc_ := Aside0.mk hbox; have nd_ := Aside0.mk ((by rw [hg]; exact (below_size (by repeat (first | (with_reducible first | exact FR.out | apply below_alloc | apply pw_below_drewN | apply below_drew1) | exact FR.out))) : W.heap.size ≤ gb4)); clear FR hb hbox hg; clear BK3; have BK3 := n0_; have NE3_4 := m0_; have FR := nb_; have BK4 := nc_; have GE4 := nd_; clear nb_ nc_ nd_ n0_ m0_; have hz4_0 := (blk_cell BK4.out 0); have hf4_0 := (blk_frozen BK4.out 0); simp at hz4_0; skip) | ((with_reducible refine gate_dst (N := 5) rfl ?_); refine box_event ?hg (N := 5) ?hd (cs := #[.func (.func ne) #[] eb]) (t := 65) ?hr ?_; (case hd => rfl); (case hg => rfl); (case hr => first | (go_simp; done) | (go_simp; rfl)); intro gb5 hg w5 hbox hb; have n0_ := Aside0.mk (blk_below (pk BK3.out) hb); have m0_ := Aside0.mk ((by rw [hg]; exact Nat.ne_of_lt (blk_lt (pk BK3.out)) : gb3 ≠ gb5)); have n1_ := Aside0.mk (blk_below (pk BK4.out) hb); have m1_ := Aside0.mk ((by rw [hg]; exact Nat.ne_of_lt (blk_lt (pk BK4.out)) : gb4 ≠ gb5)); have nb_ := Aside0.mk (below_step (by repeat (first | (with_reducible first | exact FR.out | apply below_alloc | apply pw_below_drewN | apply below_drew1) | exact FR.out)) hb); have nc_ := Aside0.mk hbox; have nd_ := Aside0.mk ((by rw [hg]; exact (below_size (by repeat (first | (with_reducible first | exact FR.out | apply below_alloc | apply pw_below_drewN | apply below_drew1) | exact FR.out))) : W.heap.size ≤ gb5)); clear FR hb hbox hg; clear BK3 BK4; have BK3 := n0_; have NE3_5 := m0_; have BK4 := n1_; have NE4_5 := m1_; have FR := nb_; have BK5 := nc_; have GE5 := nd_; clear nb_ nc_ nd_ n0_ m0_ n1_ m1_; have hz5_0 := (blk_cell BK5.out 0); have hf5_0 := (blk_frozen BK5.out 0); simp at hz5_0; skip) | ((with_reducible refine gate_dst (N := 6) rfl ?_); refine box_event ?hg (N := 6) ?hd (cs := #[.nilFunc]) (t := 65) ?hr ?_; (case hd => rfl); (case hg => rfl); (case hr => first | (go_simp; done) | (go_simp; rfl)); intro gb6 hg w6 hbox hb; have n0_ := Aside0.mk (blk_below (pk BK3.out) hb); have m0_ := Aside0.mk ((by rw [hg]; exact Nat.ne_of_lt (blk_lt (pk BK3.out)) : gb3 ≠ gb6)); have n1_ := Aside0.mk (blk_below (pk BK4.out) hb); have m1_ := Aside0.mk ((by rw [hg]; exact Nat.ne_of_lt (blk_lt (pk BK4.out)) : gb4 ≠ gb6)); have n2_ := Aside0.mk (blk_below (pk BK5.out) hb); have m2_ := Aside0.mk ((by rw [hg]; exact Nat.ne_of_lt (blk_lt (pk BK5.out)) : gb5 ≠ gb6)); have nb_ := Aside0.mk (below_step (by repeat (first | (with_reducible first | exact FR.out | apply below_alloc | apply pw_below_drewN | apply below_drew1) | exact FR.out)) hb); have nc_ := Aside0.mk hbox; have nd_ := Aside0.mk ((by rw [hg]; exact (below_size (by repeat (first | (with_reducible first | exact FR.out | apply below_alloc | apply pw_below_drewN | apply below_drew1) | exact FR.out))) : W.heap.size ≤ gb6)); clear FR hb hbox hg; clear BK3 BK4 BK5; have BK3 := n0_; have NE3_6 := m0_; have BK4 := n1_; have NE4_6 := m1_; have BK5 := n2_; have NE5_6 := m2_; have FR := nb_; have BK6 := nc_; have GE6 := nd_; clear nb_ nc_ nd_ n0_ m0_ n1_ m1_ n2_ m2_; have hz6_0 := (blk_cell BK6.out 0); have hf6_0 := (blk_frozen BK6.out 0); simp at hz6_0; skip))
  have N1 := Aside0.mk (blk_far (p := ⟨gb6, 0, none⟩) BK3.out NE3_6.out (.func (.func 87) #[] #[.pointer (some ⟨gb3, 0, none⟩), .pointer (some ⟨gb5, 0, none⟩), .pointer (some ⟨gb4, 0, none⟩), .pointer (some ⟨gb6, 0, none⟩)]))
  have N2 := Aside0.mk (blk_far (p := ⟨gb6, 0, none⟩) BK4.out NE4_6.out (.func (.func 87) #[] #[.pointer (some ⟨gb3, 0, none⟩), .pointer (some ⟨gb5, 0, none⟩), .pointer (some ⟨gb4, 0, none⟩), .pointer (some ⟨gb6, 0, none⟩)]))
  have N3 := Aside0.mk (blk_far (p := ⟨gb6, 0, none⟩) BK5.out NE5_6.out (.func (.func 87) #[] #[.pointer (some ⟨gb3, 0, none⟩), .pointer (some ⟨gb5, 0, none⟩), .pointer (some ⟨gb4, 0, none⟩), .pointer (some ⟨gb6, 0, none⟩)]))
  have N4 := Aside0.mk (blk_put (cs' := #[.func (.func 87) #[] #[.pointer (some ⟨gb3, 0, none⟩), .pointer (some ⟨gb5, 0, none⟩), .pointer (some ⟨gb4, 0, none⟩), .pointer (some ⟨gb6, 0, none⟩)]]) BK6.out 0 (.func (.func 87) #[] #[.pointer (some ⟨gb3, 0, none⟩), .pointer (some ⟨gb5, 0, none⟩), .pointer (some ⟨gb4, 0, none⟩), .pointer (some ⟨gb6, 0, none⟩)]) rfl)
  have N5 := Aside0.mk (below_set (v := .func (.func 87) #[] #[.pointer (some ⟨gb3, 0, none⟩), .pointer (some ⟨gb5, 0, none⟩), .pointer (some ⟨gb4, 0, none⟩), .pointer (some ⟨gb6, 0, none⟩)]) (j := 0) FR.out GE6.out)
  generalize hW5 : w6.setCell ⟨gb6, 0, none⟩ _ = W5 at N1 N2 N3 N4 N5 ⊢
  have hc0 := (blk_cell N4.out 0)
  simp at hc0
  have hx := HO.out W5 N5.out gb3 gb5 gb4 gb6 ⟨N1.out, N3.out, N2.out, N4.out⟩
  simp only [List.append_toArray, List.cons_append, List.nil_append] at hx
  have HX := Aside0.mk hx
  clear hx
  clear hW5 HO BK3 BK4 BK5 BK6 N1 N2 N3 N4
  go_wp2_with (refine HX.out.mono ?_; rintro e w8 ⟨rfl, v', h1, h2⟩; have H1 := Aside0.mk h1; have H2 := Aside0.mk h2; clear h1 h2)
  go_end0
  exact ⟨rfl, v', H1.out, (LkFr.below N5.out).trans H2.out⟩
set_option maxHeartbeats 8000000 in
set_option maxRecDepth 100000 in
/-- Does a clue not fit? -/
theorem hid_clue (k gb0 : Nat) (x : S45) (r : Bool) (A1 : Option Addr) (c1 : Nat) (l : List Int) (w : World) (hB : w.heap[gb0]? = some (.cells #[.slice A1 l.length c1] 26 (0, 0))) (hC : (Kd.int .i64).C w A1 l.length l) (hle : l.length ≤ c1) (h : ((impl_Clue_fits.f k x.f0 x.f1 x.f2 l).bind fun t => some (!t)) = some r) :
    Calls Try.prog 77 (#[.agg #[.int .i64 x.f0, .int .i64 x.f1, .int .i64 x.f2]] ++ #[.pointer (some ⟨gb0, 0, none⟩)]) w fun e w' => e = .returned (.bool r) ∧ Below w.heap.size w w' := by
  obtain ⟨t, h1, h2⟩ := Option.bind_eq_some_iff.mp h
  obtain rfl := Option.some.inj h2
  have HF := Aside0.mk fun (W : World) (hb : Below w.heap.size w W) => impl_Clue_fits.calls k x.f0 x.f1 x.f2 A1 c1 l t W (Kd.C_below hC hb) hle h1
  have BK0 := Aside0.mk hB
  have HB := Aside0.mk (Below.refl w.heap.size w)
  clear h h1 h2 hC hB hle
  go_enter Try.func77, Try.ntmps77
  go_upto_region 1 with (first | ((with_reducible refine gate_dst (N := 2) rfl ?_); refine box_event ?hg (N := 2) ?hd (cs := #[.int .i64 x.f0, .int .i64 x.f1, .int .i64 x.f2]) (t := 45) ?hr ?_; (case hd => rfl); (case hg => rfl); (case hr => first | (go_simp; done) | (go_simp; rfl)); intro gb2 hg w2 hbox hb; have n0_ := Aside0.mk (blk_below (pk BK0.out) hb); have m0_ := Aside0.mk ((by rw [hg]; exact Nat.ne_of_lt (blk_lt (pk BK0.out)) : gb0 ≠ gb2)); have nb_ := Aside0.mk (below_step (by repeat (first | (with_reducible first | exact HB.out | apply below_alloc | apply pw_below_drewN | apply below_drew1) | exact HB.out)) hb); have nc_ := Aside0.mk hbox; have nd_ := Aside0.mk ((by rw [hg]; exact (below_size (by repeat (first | (with_reducible first | exact HB.out | apply below_alloc | apply pw_below_drewN | apply below_drew1) | exact HB.out))) : w.heap.size ≤ gb2)); clear HB hb hbox hg; clear BK0; have BK0 := n0_; have NE0_2 := m0_; have HB := nb_; have BK2 := nc_; have GE2 := nd_; clear nb_ nc_ nd_ n0_ m0_; have hz2_0 := (blk_cell BK2.out 0); have hf2_0 := (blk_frozen BK2.out 0); simp at hz2_0; have hz2_1 := (blk_cell BK2.out 1); have hf2_1 := (blk_frozen BK2.out 1); simp at hz2_1; have hz2_2 := (blk_cell BK2.out 2); have hf2_2 := (blk_frozen BK2.out 2); simp at hz2_2; skip))
  have hy0 := (blk_cell BK0.out 0)
  simp at hy0
  go_wp2_with (go_at_call 62; refine (HF.out _ (by repeat (first | (with_reducible first | exact HB.out | apply below_alloc | apply pw_below_drewN | apply below_drew1) | exact HB.out))).mono ?_; rintro e w5 ⟨rfl, hb5⟩; have n0_ := Aside0.mk (below_step (by repeat (first | (with_reducible first | exact HB.out | apply below_alloc | apply pw_below_drewN | apply below_drew1) | exact HB.out)) hb5); clear HB hb5; have HB := n0_; clear n0_)
  go_ret
  exact ⟨rfl, (by repeat (first | (with_reducible first | exact HB.out | apply below_alloc | apply pw_below_drewN | apply below_drew1) | exact HB.out))⟩
/-- Do all clues fit? -/
def impl_hidden.p (k : Nat) (clues : List S45) (l : List Int) : Option Bool := (anyO (fun c : S45 => (impl_Clue_fits.f k c.f0 c.f1 c.f2 l).bind fun t => some (!t)) clues).bind fun t => some (!t)
set_option maxHeartbeats 8000000 in
set_option maxRecDepth 100000 in
theorem hid_each (k g gc many : Nat) (Ac : Option Addr) (cc : Nat) (clues : List S45) (w0 : World) (hcl : Kd.C k45 w0 Ac clues.length clues) : Each g gc many 75 (.slice Ac clues.length cc) #[.pointer (some ⟨gc, 0, none⟩), .pointer (some ⟨g, 0, none⟩)] (impl_hidden.p k clues) w0 := by
  intro W v vL l acc b hst hc hr hl hp hlen
  obtain ⟨A1, c1, rfl, hle, hC⟩ := row_C hr
  obtain ⟨A, c, rfl⟩ := Kd.S_slice hst.row
  obtain ⟨t, ht, hb⟩ := Option.bind_eq_some_iff.mp hp
  obtain rfl := Option.some.inj hb
  have HCF := Aside0.mk fun (W1 : World) (hb : Below W.heap.size W W1) (B : Nat) (hB : W1.heap[B]? = some (.cells #[.slice A1 l.length c1] 26 (0, 0))) =>
    impl_Clue_76.calls_fn 77 #[.pointer (some ⟨B, 0, none⟩)] (enters_of Try.func77 (by kernel_rfl) rfl) (fun c : S45 => (impl_Clue_fits.f k c.f0 c.f1 c.f2 l).bind fun t => some (!t)) Ac cc clues W1 (Kd.C_below hcl (below_step hst.bel hb))
      (fun W' x r hb' hx => hid_clue k B x r A1 c1 l W' (blk_below hB hb') (Kd.C_below hC (below_step hb hb')) hle hx) _ ht
  have ST := Aside0.mk hst
  have CL := Aside0.mk hc
  have RL := Aside0.mk hr
  have HLEN := Aside0.mk hlen
  have HB := Aside0.mk (Below.refl W.heap.size W)
  clear hst hc hr hl hp ht hb hC hle hlen
  cases t with
  | true =>
    go_enter Try.func75, Try.ntmps75
    go_upto_region 1 with (first | ((with_reducible refine gate_dst (N := 3) rfl ?_); refine box_event ?hg (N := 3) ?hd (cs := #[.slice A1 l.length c1]) (t := 26) ?hr ?_; (case hd => rfl); (case hg => rfl); (case hr => first | (go_simp; done) | (go_simp; rfl)); intro gb3 hg w3 hbox hb; have nb_ := Aside0.mk (below_step (by repeat (first | (with_reducible first | exact HB.out | apply below_alloc | apply pw_below_drewN | apply below_drew1) | exact HB.out)) hb); have nc_ := Aside0.mk hbox; have nd_ := Aside0.mk ((by rw [hg]; exact (below_size (by repeat (first | (with_reducible first | exact HB.out | apply below_alloc | apply pw_below_drewN | apply below_drew1) | exact HB.out))) : W.heap.size ≤ gb3)); clear HB hb hbox hg; have HB := nb_; have BK3 := nc_; have GE3 := nd_; clear nb_ nc_ nd_; have hz3_0 := (blk_cell BK3.out 0); have hf3_0 := (blk_frozen BK3.out 0); simp at hz3_0; skip))
    have hy0 := (blk_cell (blk_below CL.out HB.out) 0)
    simp at hy0
    go_wp2_with (first | (go_at_call 76; refine (HCF.out _ (by repeat (first | (with_reducible first | exact HB.out | apply below_alloc | apply pw_below_drewN | apply below_drew1) | exact HB.out)) _ (by first | exact BK3.out | exact pk BK3.out)).mono ?_; rintro e w7 ⟨rfl, hb7⟩; have n0_ := Aside0.mk (below_step (by repeat (first | (with_reducible first | exact HB.out | apply below_alloc | apply pw_below_drewN | apply below_drew1) | exact HB.out)) hb7); clear HB hb7; have HB := n0_; clear n0_))
    go_ret
    first | exact ⟨rfl, ⟨_, (ST.out.up (by repeat (first | (with_reducible first | exact HB.out | apply below_alloc | apply pw_below_drewN | apply below_drew1) | exact HB.out))).any⟩, LkFr.below (by repeat (first | (with_reducible first | exact HB.out | apply below_alloc | apply pw_below_drewN | apply below_drew1) | exact HB.out))⟩ | exact ⟨rfl, _, (ST.out.up (by repeat (first | (with_reducible first | exact HB.out | apply below_alloc | apply pw_below_drewN | apply below_drew1) | exact HB.out))).any, LkFr.below (by repeat (first | (with_reducible first | exact HB.out | apply below_alloc | apply pw_below_drewN | apply below_drew1) | exact HB.out))⟩
  | false =>
    go_enter Try.func75, Try.ntmps75
    go_upto_region 1 with (first | ((with_reducible refine gate_dst (N := 3) rfl ?_); refine box_event ?hg (N := 3) ?hd (cs := #[.slice A1 l.length c1]) (t := 26) ?hr ?_; (case hd => rfl); (case hg => rfl); (case hr => first | (go_simp; done) | (go_simp; rfl)); intro gb3 hg w3 hbox hb; have nb_ := Aside0.mk (below_step (by repeat (first | (with_reducible first | exact HB.out | apply below_alloc | apply pw_below_drewN | apply below_drew1) | exact HB.out)) hb); have nc_ := Aside0.mk hbox; have nd_ := Aside0.mk ((by rw [hg]; exact (below_size (by repeat (first | (with_reducible first | exact HB.out | apply below_alloc | apply pw_below_drewN | apply below_drew1) | exact HB.out))) : W.heap.size ≤ gb3)); clear HB hb hbox hg; have HB := nb_; have BK3 := nc_; have GE3 := nd_; clear nb_ nc_ nd_; have hz3_0 := (blk_cell BK3.out 0); have hf3_0 := (blk_frozen BK3.out 0); simp at hz3_0; skip))
    have hy0 := (blk_cell (blk_below CL.out HB.out) 0)
    simp at hy0
    go_upto_region 2 with (first | (go_at_call 76; refine (HCF.out _ (by repeat (first | (with_reducible first | exact HB.out | apply below_alloc | apply pw_below_drewN | apply below_drew1) | exact HB.out)) _ (by first | exact BK3.out | exact pk BK3.out)).mono ?_; rintro e w7 ⟨rfl, hb7⟩; have n0_ := Aside0.mk (below_step (by repeat (first | (with_reducible first | exact HB.out | apply below_alloc | apply pw_below_drewN | apply below_drew1) | exact HB.out)) hb7); have n1_ := Aside0.mk (blk_below (pk BK3.out) hb7); clear HB BK3 hb7 hy0; have HB := n0_; have BK3 := n1_; clear n0_ n1_))
    have S2 := Aside0.mk (ST.out.up HB.out)
    have R2 := Aside0.mk (Kd.R_below RL.out HB.out)
    have hy3 := (blk_cell BK3.out 0)
    have hy5 := (blk_cell S2.out.out 0)
    simp at hy3
    simp at hy5
    have hf5 := (blk_frozen S2.out.out 0)
    clear HCF CL
    go_wp2_with (first | ((with_reducible refine gate_builtin (b := .append) (xs := #[.tmp 9, .tmp 11]) rfl ?_); at_builtin; refine Kd.S_append (Kd.slice 3 (Kd.int .i64)) (w0 := w0) w0.heap.size rfl (.tmp 9) (.tmp 11) 54 26 (.slice none 0 0) 24 rfl Try.underlying54 info26 rfl (by decide) (by omega) (.slice A acc.length c) acc l [.slice A1 l.length c1] (fun _ => True) (fun k_ => some k_ = (Value.slice A1 l.length c1).ownBlock) rfl rfl ?aP ?aK (fun _ _ => trivial) ?aO ?aB ?aS ?aL ?_; (case aP => exact ⟨_, rfl, Kd.R_tight rfl (Kd.pR R2.out)⟩); (case aK => (intro k_ hk_; exact ⟨trivial, (by obtain ⟨cells_, hc_⟩ := Kd.R_typed R2.out k_ hk_.symm; exact Kd.S_ne S2.out.row hc_ (by decide))⟩)); (case aO => exact Kd.S_mono (Kd.pS S2.out.row) (fun k_ hk_ => ⟨trivial, hk_⟩)); (case aB => exact (S2.out.up (by repeat (first | exact Below.refl _ _ | apply pw_below_drewN | apply below_drew1 | apply below_alloc))).bel); (case aS => exact below_size (S2.out.up (by repeat (first | exact Below.refl _ _ | apply pw_below_drewN | apply below_drew1 | apply below_alloc))).bel); (case aL => have := HLEN.out rfl; omega); intro v9 w9 ho hb hg hat; obtain ⟨Ao, co, rfl⟩ := Kd.S_slice ho; have HO := Aside0.mk ho; have HB9 := Aside0.mk hb; have HG := Aside0.mk hg; have n0_ := Aside0.mk (blk_grown (pk S2.out.out) hg (Kd.S_ne S2.out.row S2.out.out (by decide))); have hf9 := (blk_frozen n0_.out 0); have hy9 := (blk_cell n0_.out 0); simp at hy9; clear ho hb hg hat))
    go_ret
    first | refine ⟨rfl, ⟨.slice Ao (acc.length + 1) co, ?_, ?_, ?_, ST.out.ge⟩, ?_⟩ | refine ⟨rfl, .slice Ao (acc.length + 1) co, ⟨?_, ?_, ?_, ST.out.ge⟩, ?_⟩
    rotate_left
    · exact (by (with_reducible repeat (first | apply Kd.S_alloc | apply Kd.S_drewN | apply Kd.S_drew)); have h_ := Kd.S_set HO.out n0_.out (by decide) 0 (.slice Ao (acc.length + 1) co); rw [List.length_append, List.length_singleton] at h_; exact h_)
    · exact (by repeat (first | (with_reducible first | exact HB9.out | apply below_alloc | apply pw_below_drewN | apply below_drew1 | refine below_set ?_ ST.out.ge) | exact HB9.out))
    · refine ⟨?_, fun k_ hk_ hg_ ht_ => ?_⟩
      · have h1_ := HB.out.size
        have h2_ := HG.out.size
        first | (simp; omega) | (simp at h2_ ⊢; omega)
      · have e1_ : w7.heap[k_]? = W.heap[k_]? := HB.out.block k_ hk_
        have e2_ : w9.heap[k_]? = w7.heap[k_]? := HG.out.block k_ (Nat.lt_of_lt_of_le hk_ HB.out.size) (fun he_ => by
          obtain ⟨cells_, hc_⟩ := Kd.S_typed S2.out.row k_ he_.symm
          exact ht_ cells_ (e1_.symm.trans hc_))
        exact (Below.heap_setCell w9 ⟨g, 0, none⟩ _ k_ hg_).trans (e2_.trans e1_)
    · exact (by (with_reducible repeat (first | refine blk_drewN ?_ _ | refine blk_drew ?_ | refine blk_alloc ?_ _)); exact blk_put n0_.out 0 _ rfl)
def impl_hidden.f (k : Nat) (a0 : Int) (l1 : List (S45)) : Option (List (List Int)) := if 0 ≤ a0 then (if a0 ≤ 100 then look (impl_hidden.p k l1) a0.toNat [] [] else none) else none
theorem impl_hidden.mono : ∀ a0 a1 k, LeO (impl_hidden.f k a0 a1) (impl_hidden.f (k + 1) a0 a1) := by
  intro a0 a1 k
  unfold impl_hidden.f
  refine LeO.ite (LeO.ite (look_mono (fun l => ?_) _ _ _) (LeO.refl _)) (LeO.refl _)
  unfold impl_hidden.p
  exact LeO.bind (anyO_mono (fun c => LeO.bind (impl_Clue_fits.mono _ _ _ _ _) (fun _ => LeO.refl _)) _) (fun _ => LeO.refl _)
set_option maxHeartbeats 8000000 in
set_option maxRecDepth 100000 in
theorem impl_hidden.calls (k : Nat) (a0 : Int) (A1 : Option Addr) (c1 : Nat) (l1 : List (S45)) (r : List (List Int)) (w : World) (hr1 : Kd.C k45 w A1 l1.length l1) (hc1 : l1.length ≤ c1) (h : impl_hidden.f k a0 l1 = some r) :
    Calls Try.prog 56 #[.int .i64 a0, .slice A1 l1.length c1] w fun e w' => ∃ v0_ : Value, e = .returned (v0_) ∧ Kd.S (Kd.slice 3 (Kd.int .i64)) 26 w' w.heap.size (fun _ => True) v0_ r ∧ Below w.heap.size w w' := by
  unfold impl_hidden.f at h
  by_cases h0 : 0 ≤ a0
  rotate_left
  · rw [if_neg h0] at h; exact absurd h (by simp)
  rw [if_pos h0] at h
  by_cases h100 : a0 ≤ 100
  rotate_left
  · rw [if_neg h100] at h; exact absurd h (by simp)
  rw [if_pos h100] at h
  obtain ⟨many, rfl⟩ : ∃ many : Nat, a0 = (many : Int) := ⟨a0.toNat, by omega⟩
  rw [Int.toNat_natCast] at h
  have HN := Aside0.mk fun (g gc : Nat) (v : Value) (W : World) (hst : LkSt g w W v (fun _ => True) []) (hc : W.heap[gc]? = some (.cells #[.slice A1 l1.length c1] 29 (0, 0))) =>
    notFalling_calls g gc 75 many (.slice A1 l1.length c1) #[.pointer (some ⟨gc, 0, none⟩), .pointer (some ⟨g, 0, none⟩)] (impl_hidden.p k l1) w (by omega) (enters_of Try.func75 (by kernel_rfl) rfl) (hid_each k g gc many A1 c1 l1 w hr1) v r W hst hc h
  have HB := Aside0.mk (Below.refl w.heap.size w)
  clear h h0 h100 hr1 hc1
  go_enter Try.func56, Try.ntmps56
  go_upto_region 1 with (first | ((with_reducible refine gate_dst (N := 3) rfl ?_); refine box_event ?hg (N := 3) ?hd (cs := #[.slice A1 l1.length c1]) (t := 29) ?hr ?_; (case hd => rfl); (case hg => rfl); (case hr => first | (go_simp; done) | (go_simp; rfl)); intro gb3 hg w3 hbox hb; have nb_ := Aside0.mk (below_step (by repeat (first | (with_reducible first | exact HB.out | apply below_alloc | apply pw_below_drewN | apply below_drew1) | exact HB.out)) hb); have nc_ := Aside0.mk hbox; have nd_ := Aside0.mk ((by rw [hg]; exact (below_size (by repeat (first | (with_reducible first | exact HB.out | apply below_alloc | apply pw_below_drewN | apply below_drew1) | exact HB.out))) : w.heap.size ≤ gb3)); clear HB hb hbox hg; have HB := nb_; have BK3 := nc_; have GE3 := nd_; clear nb_ nc_ nd_; have hz3_0 := (blk_cell BK3.out 0); have hf3_0 := (blk_frozen BK3.out 0); simp at hz3_0; skip))
  go_upto_region 2 with (first | ((with_reducible refine gate_dst (N := 5) rfl ?_); refine box_event ?hg (N := 5) ?hd (cs := #[.slice none 0 0]) (t := 54) ?hr ?_; (case hd => rfl); (case hg => rfl); (case hr => first | (go_simp; done) | (go_simp; rfl)); intro gb5 hg w5 hbox hb; have n0_ := Aside0.mk (blk_below (pk BK3.out) hb); have m0_ := Aside0.mk ((by rw [hg]; exact Nat.ne_of_lt (blk_lt (pk BK3.out)) : gb3 ≠ gb5)); have nb_ := Aside0.mk (below_step (by repeat (first | (with_reducible first | exact HB.out | apply below_alloc | apply pw_below_drewN | apply below_drew1) | exact HB.out)) hb); have nc_ := Aside0.mk hbox; have nd_ := Aside0.mk ((by rw [hg]; exact (below_size (by repeat (first | (with_reducible first | exact HB.out | apply below_alloc | apply pw_below_drewN | apply below_drew1) | exact HB.out))) : w.heap.size ≤ gb5)); have HO5 := Aside0.mk (Kd.S_below (Kd.pS HO.out) hb); clear HB hb hbox hg; clear BK3; have BK3 := n0_; have NE3_5 := m0_; have HB := nb_; have BK5 := nc_; have GE5 := nd_; clear nb_ nc_ nd_ n0_ m0_; have hz5_0 := (blk_cell BK5.out 0); have hf5_0 := (blk_frozen BK5.out 0); simp at hz5_0; skip) | ((with_reducible refine gate_dst (N := 6) rfl ?_); refine Kd.S_lit (Kd.slice 3 (Kd.int .i64)) _ 26 ?hg (N := 6) ?hd (xs := ([] : List (List Int))) (inner := []) (ok := fun _ => True) (okp := fun _ => True) ?hr ?hp (fun _ hk => hk) trivial (Below.refl _ _) (Nat.le_refl _) (by simp) ?_; (case hd => rfl); (case hg => rfl); (case hr => first | (go_simp; done) | (go_simp; rfl)); (case hp => exact (Reps.none _ _)); intro v6 w6 ho hb hg_ hnew_; clear hg_ hnew_; obtain ⟨A6, c6, rfl⟩ := Kd.S_slice ho; have n0_ := Aside0.mk (blk_below (pk BK3.out) hb); have n1_ := Aside0.mk (below_step (by repeat (first | (with_reducible first | exact HB.out | apply below_alloc | apply pw_below_drewN | apply below_drew1) | exact HB.out)) hb); have HO := Aside0.mk (Kd.S_lower ho (below_size (by repeat (first | (with_reducible first | exact HB.out | apply below_alloc | apply pw_below_drewN | apply below_drew1) | exact HB.out)))); clear HB BK3 hb ho; have BK3 := n0_; have HB := n1_; clear n0_ n1_))
  have N1 := Aside0.mk (blk_put (cs' := #[.slice A6 0 c6]) BK5.out 0 (.slice A6 0 c6) rfl)
  have N2 := Aside0.mk (blk_far (p := ⟨gb5, 0, none⟩) BK3.out NE3_5.out (.slice A6 0 c6))
  have N3 := Aside0.mk (below_set (v := (.slice A6 0 c6)) (j := 0) HB.out GE5.out)
  have N4 := Aside0.mk (Kd.S_set HO5.out BK5.out (by decide) 0 (.slice A6 0 c6))
  generalize hW5 : w5.setCell ⟨gb5, 0, none⟩ (.slice A6 0 c6) = W5 at N1 N2 N3 N4 ⊢
  have HX := Aside0.mk (HN.out gb5 gb3 (.slice A6 0 c6) W5 ⟨N1.out, N4.out, N3.out, GE5.out⟩ N2.out)
  clear hW5 HN HO5 BK3 BK5 HB hz5_0 hf5_0 N1 N2 N4
  go_upto_region 3 with (go_at_call 74; refine HX.out.mono ?_; rintro e w8 ⟨rfl, v', h1, h2⟩; have H1 := Aside0.mk h1; clear h1 h2)
  have hy5 := (blk_cell H1.out.out 0)
  simp at hy5
  go_wp2
  go_ret
  exact ⟨_, rfl, (H1.out.up (by repeat (first | exact Below.refl _ _ | apply pw_below_drewN | apply below_drew1 | apply below_alloc))).row, (H1.out.up (by repeat (first | exact Below.refl _ _ | apply pw_below_drewN | apply below_drew1 | apply below_alloc))).bel⟩

end Go.Proofs.Ytkgbahokhifojaa.QHid
