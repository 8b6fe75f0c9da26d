/- A part of a proof that a law of the given program holds for every input: no condition. -/
import Derived.Test.YtfgefmkcmkihhaaRows
import Derived.ProofKit
import Derived.OpenShut
import Derived.ShutString
import Derived.ChangeOld
import Derived.Below
import Derived.SizedLaws
import Derived.Test.YtfgefmkcmkihhaaKFnExactCarry2

/-! The law FnExactCarry, as its row states it: whatever the input the law returns true; no condition. -/
namespace Go.Proofs.Ytfgefmkcmkihhaa.fnExactCarry
open Go.ChangeShapes Go.WideShapes Go.ChangeAt Go.RowKit Go.Proofs.YtfgefmkcmkihhaaE
set_option linter.unusedVariables false
theorem own : ownKnob Try.prog.godebug = none := by kernel_rfl
theorem laidOut : laidOutB Try.prog = true := by kernel_rfl
theorem T3 : Tells Try.prog 3 1 (fun n : Int => [.v (.int .i64 n)]) (fun _ => True) := (Tells.int Try.underlying3).as id _ (fun _ => rfl) _ (fun _ _ => trivial)
theorem TI : Tells Try.prog 3 (sz .int) (enc .int) (fun _ => True) := T3.as (fun n : Int => n) (enc .int) (fun _ => rfl) _ (fun _ _ => trivial)
theorem TN (t : TypeId) (ht : Try.prog.underlying t = some (.struct #[{ name := "Kind", type := 3, offset := 0, embedded := false, tag := "", pkgPath := "", byteOffset := 0 }, { name := "Circuit", type := 3, offset := 1, embedded := false, tag := "", pkgPath := "", byteOffset := 8 }])) (hc : Try.prog.cellsOf t = 1 + 1) : Tells Try.prog t (sz .note) (enc .note) (fun _ => True) :=
  (Tells.struct (n := 1 + 1) ht (TellsF.cons (n := 1) (n' := 1) T3 (by kernel_rfl) (by kernel_rfl) (TellsF.one T3 (by kernel_rfl) (by kernel_rfl))) hc).as (fun x : Int × Int => (⟨x.1, x.2⟩ : Note)) (enc .note) (fun _ => rfl) _ (fun _ _ => trivial)
theorem T22 : Tells Try.prog 22 1 (fun xs : List Int => [.rs .int xs]) (fun xs => xs.length ≤ 17592186044416) := (Tells.slice (τ := .int) Try.underlying22 TI (by kernel_rfl) (B := 8) (by kernel_rfl)).as id _ (fun _ => rfl) _ (fun xs h => by have := h.1; simp only [id]; omega)
theorem T25 : Tells Try.prog 25 1 (fun xs : List Note => [.rs .note xs]) (fun xs => xs.length ≤ 17592186044416) := (Tells.slice (τ := .note) Try.underlying25 (TN 87 Try.underlying87 (by kernel_rfl)) (by kernel_rfl) (B := 16) (by kernel_rfl)).as id _ (fun _ => rfl) _ (fun xs h => by have := h.1; simp only [id]; omega)
theorem T23 : Tells Try.prog 23 (1 + 1) (fun x : List Int × List Int => [.rs .int x.1] ++ [.rs .int x.2]) (fun x => x.1.length ≤ 17592186044416 ∧ x.2.length ≤ 17592186044416) := (Tells.array (n := 1 + 1) Try.underlying23 (TellsF.cons (n := 1) (n' := 1) T22 (by kernel_rfl) (by kernel_rfl) (TellsF.one T22 (by kernel_rfl) (by kernel_rfl))) (by kernel_rfl)).as id _ (fun _ => rfl) _ (fun _ h => h)
theorem T24 : Tells Try.prog 24 (1 + 1) (fun x : Int × Int => [.v (.int .i64 x.1)] ++ [.v (.int .i64 x.2)]) (fun x => True ∧ True) := (Tells.array (n := 1 + 1) Try.underlying24 (TellsF.cons (n := 1) (n' := 1) T3 (by kernel_rfl) (by kernel_rfl) (TellsF.one T3 (by kernel_rfl) (by kernel_rfl))) (by kernel_rfl)).as id _ (fun _ => rfl) _ (fun _ h => h)
theorem T26 : Tells Try.prog 26 (1 + 1) (fun x : List Note × List Note => [.rs .note x.1] ++ [.rs .note x.2]) (fun x => x.1.length ≤ 17592186044416 ∧ x.2.length ≤ 17592186044416) := (Tells.array (n := 1 + 1) Try.underlying26 (TellsF.cons (n := 1) (n' := 1) T25 (by kernel_rfl) (by kernel_rfl) (TellsF.one T25 (by kernel_rfl) (by kernel_rfl))) (by kernel_rfl)).as id _ (fun _ => rfl) _ (fun _ h => h)
theorem T28 : Tells Try.prog 28 6 (fun t : Tr => [.rs .int t.c0, .rs .int t.c1, .v (.int .i64 t.x), .v (.int .i64 t.y), .rs .note t.q0, .rs .note t.q1]) (fun t => t.c0.length ≤ 17592186044416 ∧ t.c1.length ≤ 17592186044416 ∧ t.q0.length ≤ 17592186044416 ∧ t.q1.length ≤ 17592186044416) :=
  (Tells.struct (n := 2 + (2 + 2)) Try.underlying28 (TellsF.cons (n := 2) (n' := 2 + 2) T23 (by kernel_rfl) (by kernel_rfl) (TellsF.cons (n := 2) (n' := 2) T24 (by kernel_rfl) (by kernel_rfl) (TellsF.one T26 (by kernel_rfl) (by kernel_rfl)))) (by kernel_rfl)).as
    (fun a => (⟨a.1.1, a.1.2, a.2.1.1, a.2.1.2, a.2.2.1, a.2.2.2⟩ : Tr)) _ (fun _ => rfl) _ (fun a h => ⟨h.1.1, h.1.2, h.2.2.1, h.2.2.2⟩)
set_option maxRecDepth 100000 in
set_option maxHeartbeats 1000000 in
theorem lifted (os : Os) (started : os.Started) (H : Type) (enc : TypeId × Value → H) :
    ReturnsInHanded {} Try.checked os 5 .any (Rows.fnExactCarrySpec.pre6 enc Try.prog Try.f5 Rows.fnExactCarryRow.domain false) (Rows.fnExactCarrySpec.post enc Try.prog Try.f5 false true false false) := by
  refine returnsInHanded_of_change_sized (C := Try.checked) own started (by kernel_rfl) Try.func5
    (ChangeSpec.witness6 (enc := enc) (C := Try.checked) false ⟨#[], #[.agg #[.slice none 0 0, .slice none 0 0, .int .i64 0, .int .i64 0, .slice none 0 0, .slice none 0 0], .int .i64 0], []⟩ 8 (by kernel_rfl) (by kernel_rfl) (by kernel_rfl) (by kernel_rfl)) ?_
  intro W base args ds gs before hval0 hW hcnd hsz0 _
  have hsz : (DataW.weightsEach Try.prog (Try.f5.params.toList ++ Rows.fnExactCarrySpec.plain.varTypes Try.prog) (ds ++ gs)).all (· ≤ reachBytes) = true := hsz0
  have hval : ∀ (j : Nat) t v, Try.f5.params[j]? = some t → args[j]? = some v → Value.okWide Try.prog W .any base t v := hval0
  have hW' := hW
  obtain ⟨p, q, hA0, hV, rfl, hfz, hnd⟩ := hW
  have hA : DataW.TrodAll enc Try.prog W 0 (fun _ => true) true Try.f5.params.toList args.toList ds p := hA0
  rw [Try.params5] at hA hval hsz
  obtain ⟨v0, vs0, d0, ds0, p0, q0, hargs, rfl, rfl, h0, r0⟩ := trodAll_cons hA
  obtain ⟨v1, vs1, d1, ds1, p1, q1, rfl, rfl, rfl, h1, r1⟩ := trodAll_cons r0
  obtain ⟨rfl, rfl, rfl⟩ := trodAll_nil r1
  obtain rfl : args = #[v0, v1] := by cases args; simp_all
  obtain ⟨rfl, rfl⟩ := trodVars_none hV
  obtain ⟨cs0, rfl, _⟩ := okWide_agg (.inl ⟨_, Try.underlying28⟩) (hval 0 28 v0 rfl rfl)
  have k0 := h0
  have lt0 : ∀ x ∈ p0, x.block < W.heap.size := by obtain ⟨m, hm⟩ := k0; exact DataW.trod_lt m _ _ _ hm
  obtain ⟨y0, hK0, o0⟩ := Tells.agg T28 hsz 0 rfl rfl h0
  obtain ⟨a1, rfl, rfl, rfl, w1⟩ := open_int Try.underlying3 (hval 1 3 v1 rfl rfl) h1
  clear hA0 hval0 hsz0 hsz
  refine (law_ok valid5 (DenL.cons hK0 (DenL.cons (.v (.int .i64 a1)) .nil)) (fun K hk => ⟨o0, hk⟩)).mono fun e W' ⟨he, bel⟩ => ?_
  subst he
  exact ⟨_, rfl, _, _, _, [], _, [], hW', trodAll_mk1 (shut_bool Try.underlying4 _), (trodAll_cons_mk (Below.trod laidOut (by kernel_rfl) (of_decide_eq_true (by kernel_rfl)) k0 bel lt0) (trodAll_cons_mk (shut_int Try.underlying3 w1) trodAll_mk0)), rfl, bel.frame _, fun h => by cases h⟩
theorem over : Rows.fnExactCarryRow.holds Try.pinned (OpenSpec.ofChange Rows.fnExactCarrySpec) :=
  OpenClaim.holds_of_wide 5 Try.f5 rfl rfl rfl rfl rfl rfl rfl ⟨rfl, rfl, rfl, rfl, rfl⟩ rfl rfl rfl rfl rfl (by kernel_rfl) Try.func5 (by kernel_rfl)
    (of_decide_eq_true (by kernel_rfl)) (by unfold Func.isWrapper; first | (rw [if_pos (by decide +kernel)]; kernel_rfl) | (rw [if_neg (by decide +kernel)]; exact ⟨rfl, rfl⟩))
    (fun os started H enc _ => lifted os started H enc)
theorem proved : Rows.FnExactCarrySaid := over
#print axioms proved
end Go.Proofs.Ytfgefmkcmkihhaa.fnExactCarry
namespace Go.Proofs.Ytfgefmkcmkihhaa
/-- The row, under a short name, for the claim. -/
theorem fnExactCarry_holds : Rows.FnExactCarrySaid := fnExactCarry.proved
end Go.Proofs.Ytfgefmkcmkihhaa
