/- The program's DuoOk returns what the reference's returns, for all arguments: no condition. -/
import Derived.Test.YtdpiolhmkapnnaaPaxlawsFnExactDuoOk
import Derived.Test.YtdpiolhmkapnnaaDuoS
namespace Go.Proofs.Ytdpiolhmkapnnaa.Pure
open Go.RowKit Go.Proofs.Ytdpiolhmkapnnaa.Pa Go.Proofs.Ytdpiolhmkapnnaa.Kit Go.Proofs.YtdpiolhmkapnnaaW.PrintWords Go.Proofs.YtdpiolhmkapnnaaW.PrintLast

theorem FnExactDuoOk : laws_FnExactDuoOk.Pure := by
  intro a b c d l h
  have h1 := h.2.1
  have hl : l.length ≤ 11728124029610 := by omega
  have hm : (l.map sig).length ≤ 9223372036854775807 := by rw [List.length_map]; omega
  refine Ev.rounds (g := fun k => laws_FnExactDuoOk.f k a b c d l) ?_
  unfold laws_FnExactDuoOk.f
  cases hz : laws_szDuo.f a b c d l 1048576 with
  | none => simp [laws_szDuo.f, laws_szSigS.f] at hz; split at hz <;> simp at hz <;> split at hz <;> simp at hz
  | some t =>
    refine ev_bindc rfl ?_
    by_cases ht : t < 0
    · exact ev_pos ht (ev_some _)
    · refine ev_neg ht (Ev.bind (toDuo_ev a b c d l hl) (Ev.bind (specDuoOk_ev _ _ _ _ _ hm) (Ev.bind (toDuo_ev a b c d l hl) (Ev.bind (implDuoOk_ev _ _ _ _ _ hm) (ev_neg (by simp) (Ev.bind (toDuo_ev a b c d l hl) (Ev.bind (eqDuo_ev _ _ _ _ _ hm) (ev_pos rfl (ev_some _)))))))))

end Go.Proofs.Ytdpiolhmkapnnaa.Pure
