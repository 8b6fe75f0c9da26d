/- The program's Unstuff returns what the reference's returns, for all arguments: no condition. -/
import Derived.Test.YtkmncnkohkfkoaaPaxlawsFnExactUnstuff
import Derived.Test.YtkmncnkohkfkoaaIntS
import Derived.Test.YtkmncnkohkfkoaaStuffing
namespace Go.Proofs.Ytkmncnkohkfkoaa.Pure
open Go.RowKit Go.Proofs.Ytkmncnkohkfkoaa.Pa Go.Proofs.Ytkmncnkohkfkoaa.Kit Go.Proofs.YtkmncnkohkfkoaaW.PrintWords Go.Proofs.YtkmncnkohkfkoaaW.PrintLast Go.Proofs.YtkmncnkohkfkoaaW.PrintMore

theorem FnExactUnstuff : laws_FnExactUnstuff.Pure := by
  intro l hm _ _
  unfold maxLen at hm
  refine Ev.rounds ?_
  unfold laws_FnExactUnstuff.f
  by_cases hb : (l.length : Int) > 1048576
  · exact ev_pos hb (ev_some _)
  · have hr := unstuff_len l
    have he := eqIntS_ev (unstuff l).1 (by omega)
    refine ev_neg hb (Ev.bind (toIntS_ev l (by omega)) (Ev.bind (specUnstuff_ev l (by omega)) (Ev.bind (toIntS_ev l (by omega)) (Ev.bind (implUnstuff_ev l (by omega)) (Ev.bind he (ev_pos rfl ?_))))))
    refine Ev.step (fun _ => rfl) (ev_neg (by simp) (Ev.bind (toIntS_ev l (by omega)) (Ev.bind (eqIntS_ev l (by omega)) (ev_pos rfl (Ev.bind (markIntS_ev l 1 (by omega)) (ev_neg (by simp; omega) (Ev.bind he (ev_pos rfl ?_))))))))
    refine Ev.step (fun _ => rfl) (ev_neg (by simp) (Ev.bind (markIntS_ev (unstuff l).1 1 (by omega)) (Ev.bind (heldIntS_ev _ 1 (by omega)) (ev_neg (by simp; omega) (ev_pos rfl (Ev.bind (toIntS_ev l (by omega)) (Ev.bind (implUnstuff_ev l (by omega)) (Ev.bind he (ev_pos rfl ?_)))))))))
    exact Ev.step (fun _ => rfl) (ev_neg (by simp) (Ev.bind (heldIntS_ev _ 1 (by omega)) (ev_neg (by simp; omega) (ev_pos rfl (ev_some _)))))

end Go.Proofs.Ytkmncnkohkfkoaa.Pure
