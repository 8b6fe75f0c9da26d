/- A part of a proof that laws of the given program hold for every input: no condition. -/
import Derived.Test.YtkmncnkohkfkoaaRows
import Derived.Test.YtkmncnkohkfkoaaPbxlawsFnExactCellSum
import Derived.Test.YtkmncnkohkfkoaaPureFnExactCellSum
import Derived.Test.YtkmncnkohkfkoaaRead
import Derived.WalkKit
import Derived.ProofKit
import Derived.OpenShut
import Derived.ShutString
import Derived.ChangeOld
import Derived.Below
import Derived.SizedLaws
namespace Go.Proofs.Ytkmncnkohkfkoaa.fnExactCellSum
open Go.ChangeShapes Go.WideShapes Go.ChangeAt Go.RowKit
open Go.ChangeMaps (open_string shut_string)
open Go.Proofs.Ytkmncnkohkfkoaa.Pb Go.Proofs.Ytkmncnkohkfkoaa.Read Go.Proofs.YtkmncnkohkfkoaaW.PrintWords
set_option linter.unusedVariables false
theorem own : ownKnob Try.prog.godebug = none := by kernel_rfl
theorem laidOut : laidOutB Try.prog = true := by kernel_rfl
theorem T23 : Tells Try.prog 23 k23 (fun x => ((Lit.int .u8 x.f0).wf = true ∧ ((Lit.int .u8 x.f1).wf = true ∧ ((Lit.int .u8 x.f2).wf = true ∧ ((Lit.int .u8 x.f3).wf = true ∧ ((Lit.int .u8 x.f4).wf = true ∧ ((Lit.int .u8 x.f5).wf = true ∧ ((Lit.int .u8 x.f6).wf = true ∧ ((Lit.int .u8 x.f7).wf = true ∧ ((Lit.int .u8 x.f8).wf = true ∧ ((Lit.int .u8 x.f9).wf = true ∧ ((Lit.int .u8 x.f10).wf = true ∧ ((Lit.int .u8 x.f11).wf = true ∧ ((Lit.int .u8 x.f12).wf = true ∧ ((Lit.int .u8 x.f13).wf = true ∧ ((Lit.int .u8 x.f14).wf = true ∧ (Lit.int .u8 x.f15).wf = true)))))))))))))))) := Tells.array Try.underlying23 (TellsF.cons (Tells.int Try.underlying5) (by kernel_rfl) (by kernel_rfl) (TellsF.cons (Tells.int Try.underlying5) (by kernel_rfl) (by kernel_rfl) (TellsF.cons (Tells.int Try.underlying5) (by kernel_rfl) (by kernel_rfl) (TellsF.cons (Tells.int Try.underlying5) (by kernel_rfl) (by kernel_rfl) (TellsF.cons (Tells.int Try.underlying5) (by kernel_rfl) (by kernel_rfl) (TellsF.cons (Tells.int Try.underlying5) (by kernel_rfl) (by kernel_rfl) (TellsF.cons (Tells.int Try.underlying5) (by kernel_rfl) (by kernel_rfl) (TellsF.cons (Tells.int Try.underlying5) (by kernel_rfl) (by kernel_rfl) (TellsF.cons (Tells.int Try.underlying5) (by kernel_rfl) (by kernel_rfl) (TellsF.cons (Tells.int Try.underlying5) (by kernel_rfl) (by kernel_rfl) (TellsF.cons (Tells.int Try.underlying5) (by kernel_rfl) (by kernel_rfl) (TellsF.cons (Tells.int Try.underlying5) (by kernel_rfl) (by kernel_rfl) (TellsF.cons (Tells.int Try.underlying5) (by kernel_rfl) (by kernel_rfl) (TellsF.cons (Tells.int Try.underlying5) (by kernel_rfl) (by kernel_rfl) (TellsF.cons (Tells.int Try.underlying5) (by kernel_rfl) (by kernel_rfl) (TellsF.one (Tells.int Try.underlying5) (by kernel_rfl) (by kernel_rfl))))))))))))))))) (by kernel_rfl) (fun x : S23 => (x.f0, (x.f1, (x.f2, (x.f3, (x.f4, (x.f5, (x.f6, (x.f7, (x.f8, (x.f9, (x.f10, (x.f11, (x.f12, (x.f13, (x.f14, x.f15)))))))))))))))) (fun a => ⟨a.1, a.2.1, a.2.2.1, a.2.2.2.1, a.2.2.2.2.1, a.2.2.2.2.2.1, a.2.2.2.2.2.2.1, a.2.2.2.2.2.2.2.1, a.2.2.2.2.2.2.2.2.1, a.2.2.2.2.2.2.2.2.2.1, a.2.2.2.2.2.2.2.2.2.2.1, a.2.2.2.2.2.2.2.2.2.2.2.1, a.2.2.2.2.2.2.2.2.2.2.2.2.1, a.2.2.2.2.2.2.2.2.2.2.2.2.2.1, a.2.2.2.2.2.2.2.2.2.2.2.2.2.2.1, a.2.2.2.2.2.2.2.2.2.2.2.2.2.2.2⟩) (fun _ => rfl)
set_option maxRecDepth 100000 in
set_option maxHeartbeats 1000000 in
theorem lifted (os : Os) (started : os.Started) (H : Type) (enc : TypeId × Value → H) :
    ReturnsInHanded {} Try.checked os 4 .any (Rows.fnExactCellSumSpec.pre6 enc Try.prog Try.f4 Rows.fnExactCellSumRow.domain false) (Rows.fnExactCellSumSpec.post enc Try.prog Try.f4 false true false false) := by
  refine returnsInHanded_of_change_sized (C := Try.checked) own started (by kernel_rfl) Try.func4
    (ChangeSpec.witness6 (enc := enc) (C := Try.checked) false ⟨#[], #[.agg #[.int .u8 0, .int .u8 0, .int .u8 0, .int .u8 0, .int .u8 0, .int .u8 0, .int .u8 0, .int .u8 0, .int .u8 0, .int .u8 0, .int .u8 0, .int .u8 0, .int .u8 0, .int .u8 0, .int .u8 0, .int .u8 0]], []⟩ 8 (by kernel_rfl) (by kernel_rfl) (by kernel_rfl) (by kernel_rfl)) ?_
  intro W base args ds gs before hval0 hW hcnd hsz0 _
  have hsz : (DataW.weightsEach Try.prog (Try.f4.params.toList ++ Rows.fnExactCellSumSpec.plain.varTypes Try.prog) (ds ++ gs)).all (· ≤ reachBytes) = true := hsz0
  have hval : ∀ (j : Nat) t v, Try.f4.params[j]? = some t → args[j]? = some v → Value.okWide Try.prog W .any base t v := hval0
  have hW' := hW
  obtain ⟨p, q, hA0, hV, rfl, hfz, hnd⟩ := hW
  have hA : DataW.TrodAll enc Try.prog W 0 (fun _ => true) true Try.f4.params.toList args.toList ds p := hA0
  rw [Try.params4] at hA hval hsz
  obtain ⟨v0, vs0, d0, ds0, p0, q0, hargs, rfl, rfl, h0, r0⟩ := trodAll_cons hA
  obtain ⟨rfl, rfl, rfl⟩ := trodAll_nil r0
  obtain rfl : args = #[v0] := by cases args; simp_all
  obtain ⟨rfl, rfl⟩ := trodVars_none hV
  obtain ⟨cs0, rfl, _⟩ := okWide_agg (.inr ⟨_, _, Try.underlying23⟩) (hval 0 23 v0 rfl rfl)
  have k0 := h0
  have lt0 : ∀ x ∈ p0, x.block < W.heap.size := by obtain ⟨m, hm⟩ := k0; exact DataW.trod_lt m _ _ _ hm
  obtain ⟨y0, hK0, o0⟩ := Tells.agg T23 hsz 0 rfl rfl h0
  have e0 := k23_open hK0
  obtain rfl : cs0 = #[.int .u8 y0.f0, .int .u8 y0.f1, .int .u8 y0.f2, .int .u8 y0.f3, .int .u8 y0.f4, .int .u8 y0.f5, .int .u8 y0.f6, .int .u8 y0.f7, .int .u8 y0.f8, .int .u8 y0.f9, .int .u8 y0.f10, .int .u8 y0.f11, .int .u8 y0.f12, .int .u8 y0.f13, .int .u8 y0.f14, .int .u8 y0.f15] := Array.toList_inj.1 e0
  clear hA0 hval0 hsz0 hsz
  refine (Pb.laws_FnExactCellSum.walk Pure.FnExactCellSum y0.f0 y0.f1 y0.f2 y0.f3 y0.f4 y0.f5 y0.f6 y0.f7 y0.f8 y0.f9 y0.f10 y0.f11 y0.f12 y0.f13 y0.f14 y0.f15 W  o0).mono fun e W' ⟨he, bel⟩ => ?_
  subst he
  exact ⟨_, rfl, _, _, _, [], _, [], hW', trodAll_mk1 (shut_bool Try.underlying4 _), (trodAll_cons_mk (Below.trod laidOut (by kernel_rfl) (of_decide_eq_true (by kernel_rfl)) k0 bel lt0) trodAll_mk0), rfl, bel.frame _, fun h => by cases h⟩
theorem over : Rows.fnExactCellSumRow.holds Try.pinned (OpenSpec.ofChange Rows.fnExactCellSumSpec) :=
  OpenClaim.holds_of_wide 4 Try.f4 rfl rfl rfl rfl rfl rfl rfl ⟨rfl, rfl, rfl, rfl, rfl⟩ rfl rfl rfl rfl rfl (by kernel_rfl) Try.func4 (by kernel_rfl)
    (of_decide_eq_true (by kernel_rfl)) (by unfold Func.isWrapper; first | (rw [if_pos (by decide +kernel)]; kernel_rfl) | (rw [if_neg (by decide +kernel)]; exact ⟨rfl, rfl⟩))
    (fun os started H enc _ => lifted os started H enc)
theorem proved : Rows.FnExactCellSumSaid := over
#print axioms proved
end Go.Proofs.Ytkmncnkohkfkoaa.fnExactCellSum
namespace Go.Proofs.Ytkmncnkohkfkoaa
/-- The row, under a short name, for the claim. -/
theorem fnExactCellSum_holds : Rows.FnExactCellSumSaid := fnExactCellSum.proved
end Go.Proofs.Ytkmncnkohkfkoaa
