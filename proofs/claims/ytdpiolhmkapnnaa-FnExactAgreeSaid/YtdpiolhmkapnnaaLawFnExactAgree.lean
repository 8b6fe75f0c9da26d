/- A part of a proof that laws of the given program hold for every input: no condition. -/
import Derived.Test.YtdpiolhmkapnnaaRows
import Derived.Test.YtdpiolhmkapnnaaPaxlawsFnExactAgree
import Derived.Test.YtdpiolhmkapnnaaPureFnExactAgree
import Derived.Test.YtdpiolhmkapnnaaRead
import Derived.WalkKit
import Derived.ProofKit
import Derived.OpenShut
import Derived.ShutString
import Derived.ChangeOld
import Derived.Below
import Derived.SizedLaws
namespace Go.Proofs.Ytdpiolhmkapnnaa.fnExactAgree
open Go.ChangeShapes Go.WideShapes Go.ChangeAt Go.RowKit
open Go.ChangeMaps (open_string shut_string)
open Go.Proofs.Ytdpiolhmkapnnaa.Pa Go.Proofs.Ytdpiolhmkapnnaa.Read Go.Proofs.YtdpiolhmkapnnaaW.PrintWords
set_option linter.unusedVariables false
theorem own : ownKnob Try.prog.godebug = none := by kernel_rfl
theorem laidOut : laidOutB Try.prog = true := by kernel_rfl
theorem T23 : Tells Try.prog 23 k23 (fun x => ((Lit.int .i64 x.f0).wf = true ∧ (Lit.int .i64 x.f1).wf = true)) := Tells.struct Try.underlying23 (TellsF.cons (Tells.int Try.underlying3) (by kernel_rfl) (by kernel_rfl) (TellsF.one (Tells.int Try.underlying3) (by kernel_rfl) (by kernel_rfl))) (by kernel_rfl) (fun x : S23 => (x.f0, x.f1)) (fun a => ⟨a.1, a.2⟩) (fun _ => rfl)
theorem T24 : Tells Try.prog 24 k24 (fun x => (((Lit.int .i64 x.f0.f0).wf = true ∧ (Lit.int .i64 x.f0.f1).wf = true) ∧ ((Lit.int .i64 x.f1.f0).wf = true ∧ (Lit.int .i64 x.f1.f1).wf = true))) := Tells.array Try.underlying24 (TellsF.cons T23 (by kernel_rfl) (by kernel_rfl) (TellsF.one T23 (by kernel_rfl) (by kernel_rfl))) (by kernel_rfl) (fun x : S24 => (x.f0, x.f1)) (fun a => ⟨a.1, a.2⟩) (fun _ => rfl)
theorem T101 : Tells Try.prog 101 k101 (fun x => ((Lit.int .i64 x.f0).wf = true ∧ ((Lit.int .i64 x.f1).wf = true ∧ (Lit.int .i64 x.f2).wf = true))) := Tells.struct Try.underlying101 (TellsF.cons (Tells.int Try.underlying3) (by kernel_rfl) (by kernel_rfl) (TellsF.cons (Tells.int Try.underlying3) (by kernel_rfl) (by kernel_rfl) (TellsF.one (Tells.int Try.underlying3) (by kernel_rfl) (by kernel_rfl)))) (by kernel_rfl) (fun x : S101 => (x.f0, (x.f1, x.f2))) (fun a => ⟨a.1, a.2.1, a.2.2⟩) (fun _ => rfl)
theorem T27 : Tells Try.prog 27 k27 (fun x => ((((Lit.int .i64 x.f0.f0.f0).wf = true ∧ (Lit.int .i64 x.f0.f0.f1).wf = true) ∧ ((Lit.int .i64 x.f0.f1.f0).wf = true ∧ (Lit.int .i64 x.f0.f1.f1).wf = true)) ∧ (x.f1.length * 24 ≤ 140737488351232 ∧ x.f1.length ≤ maxLen ∧ ∀ x1_ ∈ x.f1, ((Lit.int .i64 x1_.f0).wf = true ∧ ((Lit.int .i64 x1_.f1).wf = true ∧ (Lit.int .i64 x1_.f2).wf = true))))) := Tells.struct Try.underlying27 (TellsF.cons T24 (by kernel_rfl) (by kernel_rfl) (TellsF.one (Tells.slice Try.underlying25 z101 T101 (by kernel_rfl) (by kernel_rfl)) (by kernel_rfl) (by kernel_rfl))) (by kernel_rfl) (fun x : S27 => (x.f0, x.f1)) (fun a => ⟨a.1, a.2⟩) (fun _ => rfl)
set_option maxRecDepth 100000 in
set_option maxHeartbeats 1000000 in
theorem lifted (os : Os) (started : os.Started) (H : Type) (enc : TypeId × Value → H) :
    ReturnsInHanded {} Try.checked os 4 .any (Rows.fnExactAgreeSpec.pre6 enc Try.prog Try.f4 Rows.fnExactAgreeRow.domain false) (Rows.fnExactAgreeSpec.post enc Try.prog Try.f4 false true false false) := by
  refine returnsInHanded_of_change_sized (C := Try.checked) own started (by kernel_rfl) Try.func4
    (ChangeSpec.witness6 (enc := enc) (C := Try.checked) false ⟨#[], #[.agg #[.int .i64 0, .int .i64 0, .int .i64 0, .int .i64 0, .slice none 0 0]], []⟩ 8 (by kernel_rfl) (by kernel_rfl) (by kernel_rfl) (by kernel_rfl)) ?_
  intro W base args ds gs before hval0 hW hcnd hsz0 _
  have hsz : (DataW.weightsEach Try.prog (Try.f4.params.toList ++ Rows.fnExactAgreeSpec.plain.varTypes Try.prog) (ds ++ gs)).all (· ≤ reachBytes) = true := hsz0
  have hval : ∀ (j : Nat) t v, Try.f4.params[j]? = some t → args[j]? = some v → Value.okWide Try.prog W .any base t v := hval0
  have hW' := hW
  obtain ⟨p, q, hA0, hV, rfl, hfz, hnd⟩ := hW
  have hA : DataW.TrodAll enc Try.prog W 0 (fun _ => true) true Try.f4.params.toList args.toList ds p := hA0
  rw [Try.params4] at hA hval hsz
  obtain ⟨v0, vs0, d0, ds0, p0, q0, hargs, rfl, rfl, h0, r0⟩ := trodAll_cons hA
  obtain ⟨rfl, rfl, rfl⟩ := trodAll_nil r0
  obtain rfl : args = #[v0] := by cases args; simp_all
  obtain ⟨rfl, rfl⟩ := trodVars_none hV
  obtain ⟨cs0, rfl, _⟩ := okWide_agg (.inl ⟨_, Try.underlying27⟩) (hval 0 27 v0 rfl rfl)
  have k0 := h0
  have lt0 : ∀ x ∈ p0, x.block < W.heap.size := by obtain ⟨m, hm⟩ := k0; exact DataW.trod_lt m _ _ _ hm
  obtain ⟨y0, hK0, o0⟩ := Tells.agg T27 hsz 0 rfl rfl h0
  obtain ⟨A0_4, c0_4, e0, hc0_4, hr0_4⟩ := k27_open hK0
  obtain rfl : cs0 = #[.int .i64 y0.f0.f0.f0, .int .i64 y0.f0.f0.f1, .int .i64 y0.f0.f1.f0, .int .i64 y0.f0.f1.f1, .slice A0_4 y0.f1.length c0_4] := Array.toList_inj.1 e0
  clear hA0 hval0 hsz0 hsz
  refine (Pa.laws_FnExactAgree.walk Pure.FnExactAgree y0.f0.f0.f0 y0.f0.f0.f1 y0.f0.f1.f0 y0.f0.f1.f1 A0_4 c0_4 y0.f1 W hr0_4 hc0_4 o0).mono fun e W' ⟨he, bel⟩ => ?_
  subst he
  exact ⟨_, rfl, _, _, _, [], _, [], hW', trodAll_mk1 (shut_bool Try.underlying4 _), (trodAll_cons_mk (Below.trod laidOut (by kernel_rfl) (of_decide_eq_true (by kernel_rfl)) k0 bel lt0) trodAll_mk0), rfl, bel.frame _, fun h => by cases h⟩
theorem over : Rows.fnExactAgreeRow.holds Try.pinned (OpenSpec.ofChange Rows.fnExactAgreeSpec) :=
  OpenClaim.holds_of_wide 4 Try.f4 rfl rfl rfl rfl rfl rfl rfl ⟨rfl, rfl, rfl, rfl, rfl⟩ rfl rfl rfl rfl rfl (by kernel_rfl) Try.func4 (by kernel_rfl)
    (of_decide_eq_true (by kernel_rfl)) (by unfold Func.isWrapper; first | (rw [if_pos (by decide +kernel)]; kernel_rfl) | (rw [if_neg (by decide +kernel)]; exact ⟨rfl, rfl⟩))
    (fun os started H enc _ => lifted os started H enc)
theorem proved : Rows.FnExactAgreeSaid := over
#print axioms proved
end Go.Proofs.Ytdpiolhmkapnnaa.fnExactAgree
namespace Go.Proofs.Ytdpiolhmkapnnaa
/-- The row, under a short name, for the claim. -/
theorem fnExactAgree_holds : Rows.FnExactAgreeSaid := fnExactAgree.proved
end Go.Proofs.Ytdpiolhmkapnnaa
