/- What the reference's drawing out of a list of numbers comes to: it ends, and stays in its bounds: no condition. -/
import Derived.Test.YtkmncnkohkfkoaaDraw
import Derived.Test.YtkmncnkohkfkoaaPaxspecl1PickInt
namespace Go.Proofs.Ytkmncnkohkfkoaa.Pure
open Go.RowKit Go.Proofs.Ytkmncnkohkfkoaa.Pa Go.Proofs.Ytkmncnkohkfkoaa.Kit Go.Proofs.YtkmncnkohkfkoaaW.PrintWords Go.Proofs.YtkmncnkohkfkoaaW.PrintLast Go.Proofs.YtkmncnkohkfkoaaW.PrintMore
theorem pickInt_ok (code : List Int) (i h : Int) (l : List Int) (hl : l ≠ []) (hm : l.length ≤ 9223372036854775807) (c : Cur code i) : ∃ x i' h', spec_l1PickInt.f code i h l = some (x, i', h') ∧ x ∈ l ∧ Cur code i' := by
  unfold spec_l1PickInt.f
  have hp : 0 < l.length := List.length_pos_iff.2 hl
  obtain ⟨x, i', h', e, x0, x1, _, c'⟩ := below_ok code i h (l.length : Int) c
  rw [e]; simp only [Option.bind_some]
  have := x1 (by omega)
  rw [if_pos x0, if_pos this]
  refine ⟨_, _, _, rfl, ?_, c'⟩
  obtain ⟨j, rfl⟩ := Int.eq_ofNat_of_zero_le x0
  exact rd_mem l j (by omega)
end Go.Proofs.Ytkmncnkohkfkoaa.Pure
