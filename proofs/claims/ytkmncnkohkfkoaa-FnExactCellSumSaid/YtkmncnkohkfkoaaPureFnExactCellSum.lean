/- The program's CellSum returns what the reference's returns, for all arguments: no condition. -/
import Derived.Test.YtkmncnkohkfkoaaPbxlawsFnExactCellSum
import Derived.Test.YtkmncnkohkfkoaaKit
namespace Go.Proofs.Ytkmncnkohkfkoaa.Pure
open Go.RowKit Go.Proofs.Ytkmncnkohkfkoaa.Pb Go.Proofs.Ytkmncnkohkfkoaa.Kit Go.Proofs.YtkmncnkohkfkoaaW.PrintWords Go.Proofs.YtkmncnkohkfkoaaW.PrintLast

theorem toByteA16_at (k : Nat) (a0 a1 a2 a3 a4 a5 a6 a7 a8 a9 a10 a11 a12 a13 a14 a15 : Int) : laws_toByteA16.f (k + 17) a0 a1 a2 a3 a4 a5 a6 a7 a8 a9 a10 a11 a12 a13 a14 a15 = some (a0, a1, a2, a3, a4, a5, a6, a7, a8, a9, a10, a11, a12, a13, a14, a15) := by
  simp [laws_toByteA16.f, laws_toByteA16.l0]
theorem cellSum_same (k : Nat) (a0 a1 a2 a3 a4 a5 a6 a7 a8 a9 a10 a11 a12 a13 a14 a15 : Int) : impl_CellSum.f (k + 17) a0 a1 a2 a3 a4 a5 a6 a7 a8 a9 a10 a11 a12 a13 a14 a15 = spec_CellSum.f (k + 17) a0 a1 a2 a3 a4 a5 a6 a7 a8 a9 a10 a11 a12 a13 a14 a15 := by
  simp [impl_CellSum.f, impl_CellSum.l0, spec_CellSum.f, spec_CellSum.l0, wrap64, Int.mul_comm]
theorem cellSum_some (k : Nat) (a0 a1 a2 a3 a4 a5 a6 a7 a8 a9 a10 a11 a12 a13 a14 a15 : Int) : ∃ r, spec_CellSum.f (k + 17) a0 a1 a2 a3 a4 a5 a6 a7 a8 a9 a10 a11 a12 a13 a14 a15 = some r := by
  simp [spec_CellSum.f, spec_CellSum.l0]
theorem FnExactCellSum : laws_FnExactCellSum.Pure := by
  intro a0 a1 a2 a3 a4 a5 a6 a7 a8 a9 a10 a11 a12 a13 a14 a15 _
  obtain ⟨r, h2⟩ := cellSum_some 0 a0 a1 a2 a3 a4 a5 a6 a7 a8 a9 a10 a11 a12 a13 a14 a15
  have h1 := cellSum_same 0 a0 a1 a2 a3 a4 a5 a6 a7 a8 a9 a10 a11 a12 a13 a14 a15
  rw [h2] at h1
  refine ⟨0 + 17, ?_⟩
  unfold laws_FnExactCellSum.f
  rw [toByteA16_at]
  simp only [Option.bind_some]
  rw [h2]
  simp only [Option.bind_some]
  rw [h1]
  simp

end Go.Proofs.Ytkmncnkohkfkoaa.Pure
