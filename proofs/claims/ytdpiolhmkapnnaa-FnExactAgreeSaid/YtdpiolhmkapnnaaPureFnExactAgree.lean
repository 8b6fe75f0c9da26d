/- The program's Agree returns what the reference's returns, for all arguments: no condition. -/
import Derived.Test.YtdpiolhmkapnnaaPaxlawsFnExactAgree
import Derived.Test.YtdpiolhmkapnnaaDuoS
namespace Go.Proofs.Ytdpiolhmkapnnaa.Pure
open Go.RowKit Go.Proofs.Ytdpiolhmkapnnaa.Pa Go.Proofs.Ytdpiolhmkapnnaa.Kit Go.Proofs.YtdpiolhmkapnnaaW.PrintWords Go.Proofs.YtdpiolhmkapnnaaW.PrintLast

def agreeB (a b c d : Int) (l : List S70) : Bool := duoB a b c d l && (if a = 1 ∧ c = 0 ∧ d < b then true else decide (b = d) && ((a == 0 && c == 0) || (a == 3 && c == 3) || (a == 1 && c == 2)))
theorem impl_Agree_j0 (k : Nat) (x : Bool) (a b c d : Int) : impl_Agree.j0 (k + 1) x a b c d = some (x || (decide (b = d) && ((a == 0 && c == 0) || (a == 3 && c == 3) || (a == 1 && c == 2)))) := by
  cases x
  · by_cases h2 : c = 0 <;> by_cases h4 : b = d <;> by_cases h6 : a = 0 <;> by_cases h7 : a = 3 <;> by_cases h8 : c = 2 <;> by_cases h9 : c = 3 <;> by_cases h1 : a = 1 <;> first | omega | (subst_vars; simp_all [impl_Agree.j0]; done) | (simp_all [impl_Agree.j0]; done) | (by_cases h5 : a = c <;> simp_all [impl_Agree.j0])
  · simp [impl_Agree.j0]
theorem implAgree_ev (a b c d : Int) (l : List S70) (hl : l.length ≤ 9223372036854775807) : Ev (fun k => impl_Agree.f k a b c d l) (agreeB a b c d l) := by
  unfold impl_Agree.f agreeB
  refine Ev.bind (implDuoOk_ev a b c d l hl) ?_
  cases h : duoB a b c d l
  · exact ev_neg (by simp) (ev_some _)
  · refine ev_pos rfl ?_
    have hj : ∀ x, Ev (fun k => impl_Agree.j0 k x a b c d) (x || (decide (b = d) && ((a == 0 && c == 0) || (a == 3 && c == 3) || (a == 1 && c == 2)))) := fun x => Ev.step (fun k => impl_Agree_j0 k x a b c d) (ev_some _)
    by_cases h1 : a = 1
    · refine ev_pos h1 ?_
      by_cases h2 : c = 0
      · refine ev_pos h2 (ev_eq (hj _) ?_)
        by_cases h3 : d < b <;> simp [h1, h2, h3]
      · refine ev_neg h2 (ev_eq (hj _) ?_)
        simp [h1, h2]
    · refine ev_neg h1 (ev_eq (hj _) ?_)
      simp [h1]
theorem spec_Agree_no (k : Nat) (a b c d : Int) : spec_Agree.j0 (k + 1) false a b c d = (if b = d then (if a = 0 then (if c = 0 then (some true) else (if a = 3 then (if c = 3 then (some true) else (if a = 1 then (some (c == 2)) else (some false))) else (if a = 1 then (some (c == 2)) else (some false)))) else (if a = 3 then (if c = 3 then (some true) else (if a = 1 then (some (c == 2)) else (some false))) else (if a = 1 then (some (c == 2)) else (some false)))) else (some false)) := by
  simp [spec_Agree.j0]
theorem specAgree_ev (a b c d : Int) (l : List S70) (hl : l.length ≤ 9223372036854775807) : Ev (fun k => spec_Agree.f k a b c d l) (agreeB a b c d l) := by
  unfold spec_Agree.f agreeB
  refine Ev.bind (specDuoOk_ev a b c d l hl) ?_
  cases h : duoB a b c d l
  · exact ev_neg (by simp) (ev_some _)
  · refine ev_pos rfl ?_
    by_cases h1 : a = 1
    · refine ev_pos h1 ?_
      by_cases h2 : c = 0
      · subst h1 h2
        exact ev_eq (Ev.step (f := fun _ => some (decide (d < b))) (fun _ => rfl) (ev_some _)) (by by_cases h3 : d < b <;> simp [h3])
      · have e : (c == 0) = false := by simpa using h2
        rw [e]
        refine Ev.step (fun _ => spec_Agree_no _ a b c d) (ev_const ?_)
        subst h1
        by_cases h4 : b = d <;> by_cases h8 : c = 2 <;> simp_all
    · refine ev_neg h1 (Ev.step (fun _ => spec_Agree_no _ a b c d) (ev_const ?_))
      by_cases h2 : c = 0 <;> by_cases h4 : b = d <;> by_cases h6 : a = 0 <;> by_cases h7 : a = 3 <;> by_cases h8 : c = 2 <;> by_cases h9 : c = 3 <;> first | omega | (subst_vars; simp_all) | simp_all
theorem FnExactAgree : laws_FnExactAgree.Pure := by
  intro a b c d l h
  have h1 := h.2.1
  have hl : l.length ≤ 11728124029610 := by omega
  have hm : (l.map sig).length ≤ 9223372036854775807 := by rw [List.length_map]; omega
  refine Ev.rounds (g := fun k => laws_FnExactAgree.f k a b c d l) ?_
  unfold laws_FnExactAgree.f
  cases hz : laws_szDuo.f a b c d l 1048576 with
  | none => simp [laws_szDuo.f, laws_szSigS.f] at hz; split at hz <;> simp at hz <;> split at hz <;> simp at hz
  | some t =>
    refine ev_bindc rfl ?_
    by_cases ht : t < 0
    · exact ev_pos ht (ev_some _)
    · refine ev_neg ht (Ev.bind (toDuo_ev a b c d l hl) (Ev.bind (specAgree_ev _ _ _ _ _ hm) (Ev.bind (toDuo_ev a b c d l hl) (Ev.bind (implAgree_ev _ _ _ _ _ hm) (ev_neg (by simp) (Ev.bind (toDuo_ev a b c d l hl) (Ev.bind (eqDuo_ev _ _ _ _ _ hm) (ev_pos rfl (ev_some _)))))))))

end Go.Proofs.Ytdpiolhmkapnnaa.Pure
