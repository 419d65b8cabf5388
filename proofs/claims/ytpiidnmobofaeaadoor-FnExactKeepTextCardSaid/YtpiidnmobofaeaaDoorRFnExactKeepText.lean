/- FnExactKeepText: whatever the input, the law's function returns true, and its arguments read behind the call as before; out of the walked contract and the plain statement fnExactKeepText.pure. Conditions: none. -/
import Derived.Test.YtpiidnmobofaeaaDoorDr
import Derived.Test.YtpiidnmobofaeaaDoorRows
import Derived.Test.YtpiidnmobofaeaaDoorQFnExactKeepTextx7
import Derived.Test.YtpiidnmobofaeaaDoorOpnN
import Derived.Test.YtpiidnmobofaeaaDoorYFnExactKeepText
import Derived.WalkKit
import Derived.ProofKit
import Derived.OpenShut
import Derived.ShutString
import Derived.ChangeOld
import Derived.Below
import Derived.Carry
namespace Go.Proofs.YtpiidnmobofaeaaDoor.fnExactKeepText
open Go.ChangeShapes Go.WideShapes Go.ChangeAt Go.RowKit
open Go.ChangeMaps (open_string shut_string)
open Go.Proofs.YtpiidnmobofaeaaDoorW.PrintWords Go.Proofs.YtpiidnmobofaeaaDoor.QFnExactKeepText
set_option linter.unusedVariables false
theorem own : ownKnob Tryd.prog.godebug = none := by kernel_rfl
theorem laidOut : laidOutB Tryd.prog = true := by kernel_rfl
theorem laid_met (os : Os) : laidMet Tryd.prog Rows.fnExactKeepTextRow.laid ((Dr.laidWorld os).forCall (fun _ _ => 0) ⟨#[], #[.agg #[.int .i64 0, .slice none 0 0, .int .i64 0]], []⟩).memory :=
  laidMet_of_run' 8 (by kernel_rfl) (by kernel_rfl)
theorem reads (os : Os) {H : Type} (enc : TypeId × Value → H) : ∃ places, DataW.whole enc Tryd.prog ((Dr.laidWorld os).forCall (fun _ _ => 0) ⟨#[], #[.agg #[.int .i64 0, .slice none 0 0, .int .i64 0]], []⟩).memory Tryd.f6.params.toList Rows.fnExactKeepTextSpec.vars false (#[.agg #[.int .i64 0, .slice none 0 0, .int .i64 0]] : Array Value).toList 8 = some ([(.agg [(.lit (.int .i64 0)), .nil, (.lit (.int .i64 0))])], [], places) :=
  ⟨[], by kernel_rfl⟩
set_option maxRecDepth 100000 in
theorem lifted (os : Os) (started : os.Started) (H : Type) (enc : TypeId × Value → H) (F : Stop.Interp) :
    ReturnsInHanded {} Tryd.checked os 6 .any ((OpenSpec.ofChange Rows.fnExactKeepTextSpec).preRow enc Tryd.prog Tryd.f6 Rows.fnExactKeepTextRow.domain false Rows.fnExactKeepTextRow.laid) (((OpenSpec.ofChange Rows.fnExactKeepTextSpec).at F).post enc Tryd.prog Tryd.f6 false true false false) := by
  obtain ⟨places, hx⟩ := reads os enc
  refine returnsInHanded_of_row (C := Tryd.checked) (s := OpenSpec.ofChange Rows.fnExactKeepTextSpec) own started (by kernel_rfl) Tryd.func6
    (witness_row_at (enc := enc) (C := Tryd.checked) false (Dr.laidWorld os) #[.agg #[.int .i64 0, .slice none 0 0, .int .i64 0]] rfl (by kernel_rfl) (by kernel_rfl) (by kernel_rfl)
      (OpenSpec.preRow_of_cond 8 hx (by kernel_rfl) (fun k hk => by cases hk) (by kernel_rfl) (laid_met os))) ?_
  intro W base args ds gs before hval0 hW _ _ _ hL _ _
  have hval : ∀ (j : Nat) t v, Tryd.f6.params[j]? = some t → args[j]? = some v → Value.okWide Tryd.prog W .any base t v := hval0
  have hW' := hW
  obtain ⟨p, q, hA0, hV, rfl, hfz, hnd⟩ := hW
  have hA : DataW.TrodAll enc Tryd.prog W 0 (fun _ => true) true Tryd.f6.params.toList args.toList ds p := hA0
  rw [Tryd.params6] at hA hval
  obtain ⟨v0, vs0, d0, ds0, p0, q0, hargs, rfl, rfl, h0, r0⟩ := trodAll_cons hA
  obtain ⟨rfl, rfl, rfl⟩ := trodAll_nil r0
  obtain rfl : args = #[v0] := by cases args; simp_all
  obtain ⟨rfl, rfl⟩ := trodVars_none hV
  have k0 := h0
  have lt0 : ∀ x ∈ p0, x.block < W.heap.size := by obtain ⟨m, hm⟩ := k0; exact DataW.trod_lt m _ _ _ hm
  obtain ⟨cs0, rfl, ⟨a0_0, l0_1, a0_2⟩, ⟨_, _, rfl, rfl, ⟨_, _, rfl, ⟨A0_1, c0_1, rfl, hc0_1, hr0_1⟩, rfl⟩⟩, ⟨o0_0, o0_1, o0_2⟩⟩ := Opn.arg_struct Tryd.underlying53 (hval 0 53 v0 rfl rfl) h0 (Opn.op_struct Tryd.underlying53 (by kernel_rfl) (Opn.opl_cons rfl (Opn.op_int Tryd.underlying3 (by kernel_rfl)) (Opn.opl_cons rfl (Opn.op_slice Tryd.underlying51 (by kernel_rfl) (Opn.op_sliceN Tryd.underlying22 (by kernel_rfl) (Opn.op_int Tryd.underlying3 (by kernel_rfl)))) (Opn.opl_one rfl (Opn.op_int Tryd.underlying3 (by kernel_rfl))))))
  clear hA0 hval0
  obtain ⟨k, hk⟩ := pure a0_0 l0_1 a0_2 o0_0 o0_1 hr0_1.2.1 o0_2
  refine (laws_FnExactKeepText.calls k a0_0 A0_1 c0_1 l0_1 a0_2 true W hr0_1 hc0_1 hk (Dr.table ((Go.MakeChecks.laidMetH_plain _ _ _ (by kernel_rfl)).mp hL))).mono fun e W' ⟨he, bel0⟩ => ?_
  have bel : Below W.heap.size W W' := bel0
  subst he
  exact ⟨_, rfl, _, _, _, [], _, [], hW', trodAll_mk1 (shut_bool Tryd.underlying4 _), (trodAll_cons_mk (Below.trod laidOut (by kernel_rfl) (of_decide_eq_true (by kernel_rfl)) k0 bel lt0) trodAll_mk0), rfl, bel.frame _, fun h => by cases h⟩
theorem said : Rows.FnExactKeepTextSaid :=
  OpenClaim.holds_of_cond 6 Tryd.f6 rfl rfl rfl rfl rfl rfl rfl ⟨rfl, rfl, rfl, rfl, rfl⟩ rfl rfl rfl rfl rfl (by kernel_rfl) Tryd.func6 (by kernel_rfl)
    (of_decide_eq_true (by kernel_rfl)) (by unfold Func.isWrapper; first | (rw [if_pos (by decide +kernel)]; kernel_rfl) | (rw [if_neg (by decide +kernel)]; exact ⟨rfl, rfl⟩))
    (fun os started H enc _ F => by rw [OpenClaim.pre_eq_preRow]; exact lifted os started H enc F)
theorem stands : Tryd.f6.params.toList.all (fun t => !Tryd.prog.wantsStandIn t) = true := by kernel_rfl
/-- No parameter wants a stand-in; the program's own looks are off. -/
theorem plain (f : FuncId) (fn : Func) (hf : Tryd.pinned.checked.prog.funcNamed Rows.fnExactKeepTextRow.func = some f) (hfn : Tryd.pinned.checked.prog.funcs[f]? = some fn) :
    true = Tryd.pinned.checked.prog.looks [] ∧ ∀ (j : Nat) t, fn.params[j]? = some t → Tryd.pinned.checked.prog.wantsStandIn t = false := by
  obtain rfl : f = 6 := Option.some.inj ((show Tryd.prog.funcNamed Rows.fnExactKeepTextRow.func = some 6 by kernel_rfl).symm.trans hf) |>.symm
  obtain rfl : fn = Tryd.f6 := (Option.some.inj (Tryd.func6.symm.trans hfn)).symm
  refine ⟨by kernel_rfl, fun j t ht => ?_⟩
  have hm : t ∈ Tryd.f6.params.toList := by simpa using Array.mem_of_getElem? ht
  have h := List.all_eq_true.mp stands t hm
  have h2 : Tryd.prog.wantsStandIn t = false := by simpa using h
  exact h2
theorem card : Rows.FnExactKeepTextCardSaid :=
  Claim7.holds_tied_plain_at .later [] _ _ _ _ said (fun _ h => by cases h) (by kernel_rfl) (fun _ h => by cases h) fnExactKeepText_row_tie rfl ⟨rfl, rfl⟩ (by kernel_rfl) rfl plain (by kernel_rfl)
#print axioms card
end Go.Proofs.YtpiidnmobofaeaaDoor.fnExactKeepText
namespace Go.Proofs.YtpiidnmobofaeaaDoor
/-- The card, under a short name, for the claim. -/
theorem fnExactKeepText_holds : Rows.FnExactKeepTextCardSaid := fnExactKeepText.card
end Go.Proofs.YtpiidnmobofaeaaDoor
