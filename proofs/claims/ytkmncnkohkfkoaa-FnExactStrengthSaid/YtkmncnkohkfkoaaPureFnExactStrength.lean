/- The program's Strength returns what the reference's returns, for all arguments: no condition. -/
import Derived.Test.YtkmncnkohkfkoaaPFnExactStrengthx1
namespace Go.Proofs.Ytkmncnkohkfkoaa.Pure
open Go.RowKit Go.Proofs.Ytkmncnkohkfkoaa.PFnExactStrength Go.Proofs.YtkmncnkohkfkoaaW.PrintWords Go.Proofs.YtkmncnkohkfkoaaW.PrintLast

theorem FnExactStrength : laws_FnExactStrength.Pure := by
  intro a0 a1 _ _
  have hin : ∀ x y z, impl_in.f x y z = spec_l1In.f x y z := fun x y z => rfl
  have hs : impl_Strength.f a0 a1 = spec_Strength.f a0 a1 := rfl
  unfold laws_FnExactStrength.f
  rw [hs]
  have hin2 : ∃ b, spec_l1In.f a0 1 4 = some b := by unfold spec_l1In.f; split <;> exact ⟨_, rfl⟩
  obtain ⟨b, hb⟩ := hin2
  have hd : ∃ r, spec_Strength.f a0 a1 = some r := by
    unfold spec_Strength.f
    rw [hb]
    simp only [Option.bind_some]
    split
    · split
      · exact ⟨_, rfl⟩
      · split <;> exact ⟨_, rfl⟩
    · exact ⟨_, rfl⟩
  obtain ⟨r, hr⟩ := hd
  rw [hr]
  simp

end Go.Proofs.Ytkmncnkohkfkoaa.Pure
