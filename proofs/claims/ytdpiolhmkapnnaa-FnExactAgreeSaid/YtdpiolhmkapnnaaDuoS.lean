/- Halves and what is on the way between them: what the laws' own functions come to: no condition. -/
import Derived.Test.YtdpiolhmkapnnaaLoops
import Derived.Test.YtdpiolhmkapnnaaPaxlawstoDuo
import Derived.Test.YtdpiolhmkapnnaaPaxlawseqDuo
import Derived.Test.YtdpiolhmkapnnaaPaxlawsszDuo
import Derived.Test.YtdpiolhmkapnnaaPaximplDuoOk
import Derived.Test.YtdpiolhmkapnnaaPaxspecDuoOk
namespace Go.Proofs.Ytdpiolhmkapnnaa.Pure
open Go.RowKit Go.Proofs.Ytdpiolhmkapnnaa.Pa Go.Proofs.Ytdpiolhmkapnnaa.Kit Go.Proofs.YtdpiolhmkapnnaaW.PrintWords Go.Proofs.YtdpiolhmkapnnaaW.PrintLast Go.Proofs.YtdpiolhmkapnnaaW.PrintMore

def sig (x : S101) : S70 := ⟨x.f0, x.f1, x.f2⟩
theorem toSigS_ev (l : List S101) (hl : l.length ≤ 11728124029610) : Ev (fun k => laws_toSigS.f k l) (l.map sig) := by
  unfold laws_toSigS.f
  refine ev_pos (by omega) (ev_pos (by omega) ?_)
  have hz : ((l.length : Int)).toNat = l.length := by omega
  rw [hz]
  refine map_loop (fun out i k => laws_toSigS.l0 k l out i) z101 z70 sig l ?_ ?_
  · intro out ho
    exact Ev.step (fun _ => rfl) (ev_neg (by omega) (ev_some _))
  · intro i out hi ho h
    refine Ev.step (fun _ => rfl) (ev_pos (by omega) (ev_pos (by omega) (ev_bindc rfl (ev_pos (by omega) ?_))))
    rw [wrap_next i l.length hi (by omega)]
    exact h
theorem eqSigS_ev (l : List S70) (hl : l.length ≤ 9223372036854775807) : Ev (fun k => laws_eqSigS.f k l l) true := by
  unfold laws_eqSigS.f
  refine ev_pos rfl ?_
  refine ev_upto l.length (fun i k => laws_eqSigS.l0 k l l (i : Int)) true ?_ ?_ 0 (by omega)
  · exact Ev.step (fun _ => rfl) (ev_neg (by omega) (ev_some _))
  · intro i hi h
    refine Ev.step (fun _ => rfl) (ev_pos (by omega) (ev_pos (by omega) (ev_pos (by omega) (ev_bindc (a := true) (by simp [laws_eqSig.f]) (ev_pos rfl ?_)))))
    rw [wrap_next i l.length hi hl]; exact h
theorem toHalfA2_ev (a b c d : Int) : Ev (fun k => laws_toHalfA2.f k a b c d) (a, b, c, d) := by
  unfold laws_toHalfA2.f
  exact Ev.step (fun _ => rfl) (ev_pos (by omega) (ev_pos rfl (ev_bindc rfl (Ev.step (fun _ => rfl) (ev_pos (by omega) (ev_neg (by omega) (ev_pos rfl (ev_bindc rfl (Ev.step (fun _ => rfl) (ev_neg (by omega) (ev_some _)))))))))))
theorem eqHalfA2_ev (a b c d : Int) : Ev (fun k => laws_eqHalfA2.f k a b c d a b c d) true := by
  unfold laws_eqHalfA2.f
  exact Ev.step (fun _ => rfl) (ev_pos (by omega) (ev_pos rfl (ev_bindc (a := true) (by simp [laws_eqHalf.f]) (ev_pos rfl (Ev.step (fun _ => rfl) (ev_pos (by omega) (ev_neg (by omega) (ev_pos rfl (ev_bindc (a := true) (by simp [laws_eqHalf.f]) (ev_pos rfl (Ev.step (fun _ => rfl) (ev_neg (by omega) (ev_some _)))))))))))))
theorem toDuo_ev (a b c d : Int) (l : List S101) (hl : l.length ≤ 11728124029610) : Ev (fun k => laws_toDuo.f k a b c d l) (a, b, c, d, l.map sig) := by
  unfold laws_toDuo.f
  exact Ev.bind (toHalfA2_ev a b c d) (Ev.bind (toSigS_ev l hl) (ev_some _))
theorem eqDuo_ev (a b c d : Int) (l : List S70) (hl : l.length ≤ 9223372036854775807) : Ev (fun k => laws_eqDuo.f k a b c d l a b c d l) true := by
  unfold laws_eqDuo.f
  exact Ev.bind (eqHalfA2_ev a b c d) (ev_pos rfl (Ev.bind (eqSigS_ev l hl) (ev_pos rfl (ev_some _))))

def inB (x a b : Int) : Bool := decide (a ≤ x) && decide (x ≤ b)
theorem impl_in_eq (x a b : Int) : impl_in.f x a b = some (inB x a b) := by
  unfold impl_in.f inB
  by_cases h : a ≤ x <;> simp [h]
theorem spec_in_eq (x a b : Int) : spec_l1In.f x a b = some (inB x a b) := by
  unfold spec_l1In.f inB
  by_cases h : a ≤ x <;> simp [h]
def sigB (c : Int) (s : S70) : Bool := inB s.f0 0 1 && inB s.f1 1 4 && inB s.f2 0 c
def duoB (a b c d : Int) (l : List S70) : Bool := inB a 0 4 && inB c 0 4 && !decide (a = 2) && !decide (c = 1) && inB b 0 1000 && inB d 0 b && (l.all (sigB b) && decide ((l.length : Int) ≤ 40))
theorem implDuoOk_l0 (l : List S70) (a b : Int) (hl : l.length ≤ 9223372036854775807) : Ev (fun k => impl_DuoOk.l0 k l (l.length : Int) 0 a b) (l.all (sigB b) && true) := by
  refine all_loop (fun i k => impl_DuoOk.l0 k l (l.length : Int) i a b) z70 (sigB b) l true ?_ ?_ ?_
  · exact Ev.step (fun _ => rfl) (ev_neg (by omega) (ev_some _))
  · intro i hi hp r h
    have hp' : sigB b (rd_T70 l (i : Int)) = true := hp
    unfold sigB at hp'
    rw [Bool.and_eq_true, Bool.and_eq_true] at hp'
    refine Ev.step (fun _ => rfl) (ev_pos (by omega) (ev_pos (by omega) (ev_pos (by omega) (ev_bindc ((impl_in_eq _ _ _).trans (congrArg some hp'.1.1)) (ev_pos rfl (ev_bindc ((impl_in_eq _ _ _).trans (congrArg some hp'.1.2)) (ev_pos rfl (ev_bindc ((impl_in_eq _ _ _).trans (congrArg some hp'.2)) (ev_pos rfl ?_)))))))))
    rw [wrap_next i l.length hi hl]; exact h
  · intro i hi hp
    have hp' : sigB b (rd_T70 l (i : Int)) = false := hp
    unfold sigB at hp'
    refine Ev.step (fun _ => rfl) (ev_pos (by omega) (ev_pos (by omega) (ev_pos (by omega) ?_)))
    simp only [impl_in_eq, Option.bind_some]
    cases h1 : inB (rd_T70 l (i : Int)).f0 0 1
    · exact ev_neg (by simp) (ev_some _)
    refine ev_pos rfl ?_
    cases h2 : inB (rd_T70 l (i : Int)).f1 1 4
    · exact ev_neg (by simp) (ev_some _)
    refine ev_pos rfl ?_
    cases h3 : inB (rd_T70 l (i : Int)).f2 0 b
    · exact ev_neg (by simp) (ev_some _)
    rw [h1, h2, h3] at hp'
    cases hp'
theorem specDuoOk_l0 (l : List S70) (a0 a1 a2 a3 a b : Int) (hl : l.length ≤ 9223372036854775807) : Ev (fun k => spec_DuoOk.l0 k 0 a0 a1 a2 a3 l a b) (l.all (sigB b) && decide ((l.length : Int) ≤ 40)) := by
  refine all_loop (fun i k => spec_DuoOk.l0 k i a0 a1 a2 a3 l a b) z70 (sigB b) l _ ?_ ?_ ?_
  · exact Ev.step (fun _ => rfl) (ev_neg (by omega) (ev_some _))
  · intro i hi hp r h
    have hp' : sigB b (rd_T70 l (i : Int)) = true := hp
    unfold sigB at hp'
    rw [Bool.and_eq_true, Bool.and_eq_true] at hp'
    refine Ev.step (fun _ => rfl) (ev_pos (by omega) (ev_pos (by omega) (ev_bindc ((spec_in_eq _ _ _).trans (congrArg some hp'.1.1)) (ev_pos rfl (ev_bindc ((spec_in_eq _ _ _).trans (congrArg some hp'.1.2)) (ev_pos rfl (ev_bindc ((spec_in_eq _ _ _).trans (congrArg some hp'.2)) (ev_pos rfl ?_))))))))
    rw [wrap_next i l.length hi hl]; exact h
  · intro i hi hp
    have hp' : sigB b (rd_T70 l (i : Int)) = false := hp
    unfold sigB at hp'
    refine Ev.step (fun _ => rfl) (ev_pos (by omega) (ev_pos (by omega) ?_))
    simp only [spec_in_eq, Option.bind_some]
    cases h1 : inB (rd_T70 l (i : Int)).f0 0 1
    · exact ev_neg (by simp) (ev_some _)
    refine ev_pos rfl ?_
    cases h2 : inB (rd_T70 l (i : Int)).f1 1 4
    · exact ev_neg (by simp) (ev_some _)
    refine ev_pos rfl ?_
    cases h3 : inB (rd_T70 l (i : Int)).f2 0 b
    · exact ev_neg (by simp) (ev_some _)
    rw [h1, h2, h3] at hp'
    cases hp'
theorem implDuoOk_ev (a b c d : Int) (l : List S70) (hl : l.length ≤ 9223372036854775807) : Ev (fun k => impl_DuoOk.f k a b c d l) (duoB a b c d l) := by
  have hj : ∀ x, Ev (fun k => impl_DuoOk.j0 k x a b c d l a b) (!x && (l.all (sigB b) && true)) := by
    intro x
    cases x
    · have : Ev (fun k => impl_DuoOk.j0 k false a b c d l a b) (l.all (sigB b) && true) := Ev.step (fun _ => rfl) (implDuoOk_l0 l a b hl)
      simpa using this
    · have : Ev (fun k => impl_DuoOk.j0 k true a b c d l a b) false := Ev.step (f := fun _ => some false) (fun _ => rfl) (ev_some _)
      simpa using this
  unfold impl_DuoOk.f duoB
  simp only [impl_in_eq, Option.bind_some]
  cases h1 : inB a 0 4
  · simpa using hj true
  cases h2 : inB c 0 4
  · simpa using hj true
  by_cases h3 : a = 2
  · simpa [h3] using hj true
  by_cases h4 : c = 1
  · simpa [h3, h4] using hj true
  cases h5 : inB b 0 1000
  · simpa [h3, h4] using hj true
  cases h6 : inB d 0 b
  · simpa [h3, h4] using hj true
  have := hj (decide ((l.length : Int) > 40))
  by_cases h7 : (l.length : Int) ≤ 40
  · simpa [h3, h4, h7, Int.not_lt.2 h7] using this
  · simpa [h3, h4, h7, Int.not_le.1 h7] using this
theorem specDuoOk_ev (a b c d : Int) (l : List S70) (hl : l.length ≤ 9223372036854775807) : Ev (fun k => spec_DuoOk.f k a b c d l) (duoB a b c d l) := by
  have hj : ∀ x, Ev (fun k => spec_DuoOk.j0 k x a b c d l a b) (!x && (l.all (sigB b) && decide ((l.length : Int) ≤ 40))) := by
    intro x
    cases x
    · have : Ev (fun k => spec_DuoOk.j0 k false a b c d l a b) (l.all (sigB b) && decide ((l.length : Int) ≤ 40)) := Ev.step (fun _ => rfl) (specDuoOk_l0 l a b c d a b hl)
      simpa using this
    · have : Ev (fun k => spec_DuoOk.j0 k true a b c d l a b) false := Ev.step (f := fun _ => some false) (fun _ => rfl) (ev_some _)
      simpa using this
  unfold spec_DuoOk.f duoB
  simp only [spec_in_eq, Option.bind_some]
  cases h1 : inB a 0 4
  · simpa using hj true
  cases h2 : inB c 0 4
  · simpa using hj true
  by_cases h3 : a = 2
  · simpa [h3] using hj true
  by_cases h4 : c = 1
  · simpa [h3, h4] using hj true
  cases h5 : inB b 0 1000
  · simpa [h3, h4] using hj true
  cases h6 : inB d 0 b
  · simpa [h3, h4] using hj true
  have := hj false
  simpa [h3, h4] using this

end Go.Proofs.Ytdpiolhmkapnnaa.Pure
