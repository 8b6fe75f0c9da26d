/- A part of a proof that laws of the given program hold for every input: no condition. -/
import Derived.Test.YtjmgbdepmbbepaaQFnExactSettledM12
import Derived.Deep.Slices
import Derived.OpenShut
import Derived.SizedLaws
import Derived.Test.YtjmgbdepmbbepaaRows
import Derived.WalkKit
import Derived.ProofKit
import Derived.ShutString
import Derived.ChangeOld
import Derived.Below
namespace Go.Proofs.Ytjmgbdepmbbepaa.Pure
open Go.RowKit Go.Proofs.Ytjmgbdepmbbepaa.Pa Go.Proofs.Ytjmgbdepmbbepaa.Kit Go.Proofs.YtjmgbdepmbbepaaW.PrintWords Go.Proofs.YtjmgbdepmbbepaaW.PrintLast Go.Proofs.YtjmgbdepmbbepaaW.PrintMore

def szS (n : Nat) (a : Int) : Int := if wrap64 (a - (n : Int)) < 0 then -1 else wrap64 (a - (n : Int))
theorem szIntS_eq (l : List Int) (a : Int) : laws_szIntS.f l a = some (szS l.length a) := by
  unfold laws_szIntS.f szS
  split <;> rfl
theorem szNoteS_eq (l : List S90) (a : Int) : laws_szNoteS.f l a = some (szS l.length a) := by
  unfold laws_szNoteS.f szS
  split <;> rfl
theorem szIntSA2_ev (l m : List Int) (a : Int) : ∃ t, Ev (fun k => laws_szIntSA2.f k l m a) t := by
  unfold laws_szIntSA2.f
  by_cases h : szS l.length a < 0
  · exact ⟨_, Ev.step (fun _ => rfl) (ev_pos (by omega) (ev_pos rfl (ev_bindc (szIntS_eq _ _) (ev_pos h (ev_some _)))))⟩
  · by_cases h2 : szS m.length (szS l.length a) < 0
    · exact ⟨_, Ev.step (fun _ => rfl) (ev_pos (by omega) (ev_pos rfl (ev_bindc (szIntS_eq _ _) (ev_neg h (Ev.step (fun _ => rfl) (ev_pos (by omega) (ev_neg (by omega) (ev_pos rfl (ev_bindc (szIntS_eq _ _) (ev_pos h2 (ev_some _)))))))))))⟩
    · exact ⟨_, Ev.step (fun _ => rfl) (ev_pos (by omega) (ev_pos rfl (ev_bindc (szIntS_eq _ _) (ev_neg h (Ev.step (fun _ => rfl) (ev_pos (by omega) (ev_neg (by omega) (ev_pos rfl (ev_bindc (szIntS_eq _ _) (ev_neg h2 (Ev.step (fun _ => rfl) (ev_neg (by omega) (ev_some _)))))))))))))⟩
theorem szNoteSA2_ev (l m : List S90) (a : Int) : ∃ t, Ev (fun k => laws_szNoteSA2.f k l m a) t := by
  unfold laws_szNoteSA2.f
  by_cases h : szS l.length a < 0
  · exact ⟨_, Ev.step (fun _ => rfl) (ev_pos (by omega) (ev_pos rfl (ev_bindc (szNoteS_eq _ _) (ev_pos h (ev_some _)))))⟩
  · by_cases h2 : szS m.length (szS l.length a) < 0
    · exact ⟨_, Ev.step (fun _ => rfl) (ev_pos (by omega) (ev_pos rfl (ev_bindc (szNoteS_eq _ _) (ev_neg h (Ev.step (fun _ => rfl) (ev_pos (by omega) (ev_neg (by omega) (ev_pos rfl (ev_bindc (szNoteS_eq _ _) (ev_pos h2 (ev_some _)))))))))))⟩
    · exact ⟨_, Ev.step (fun _ => rfl) (ev_pos (by omega) (ev_pos rfl (ev_bindc (szNoteS_eq _ _) (ev_neg h (Ev.step (fun _ => rfl) (ev_pos (by omega) (ev_neg (by omega) (ev_pos rfl (ev_bindc (szNoteS_eq _ _) (ev_neg h2 (Ev.step (fun _ => rfl) (ev_neg (by omega) (ev_some _)))))))))))))⟩
theorem szTrunk_ev (l m : List Int) (a b : Int) (u v : List S90) (n : Int) : ∃ t, Ev (fun k => laws_szTrunk.f k l m a b u v n) t := by
  unfold laws_szTrunk.f
  obtain ⟨t, ht⟩ := szIntSA2_ev l m n
  by_cases h : t < 0
  · exact ⟨_, Ev.bind ht (ev_pos h (ev_some _))⟩
  · obtain ⟨t2, h2⟩ := szNoteSA2_ev u v t
    by_cases h3 : t2 < 0
    · exact ⟨_, Ev.bind ht (ev_neg h (Ev.bind h2 (ev_pos h3 (ev_some _))))⟩
    · exact ⟨_, Ev.bind ht (ev_neg h (Ev.bind h2 (ev_neg h3 (ev_some _))))⟩

end Go.Proofs.Ytjmgbdepmbbepaa.Pure

namespace Go.Proofs.Ytjmgbdepmbbepaa.Pure
open Go.RowKit Go.Proofs.Ytjmgbdepmbbepaa.Pa Go.Proofs.Ytjmgbdepmbbepaa.Kit Go.Proofs.YtjmgbdepmbbepaaW.PrintWords Go.Proofs.YtjmgbdepmbbepaaW.PrintLast Go.Proofs.YtjmgbdepmbbepaaW.PrintMore

def inB (x a b : Int) : Bool := decide (a ≤ x) && decide (x ≤ b)
theorem impl_in_eq (x a b : Int) : impl_in.f x a b = some (inB x a b) := by
  unfold impl_in.f inB
  by_cases h : a ≤ x <;> simp [h]
theorem spec_in_eq (x a b : Int) : spec_l1In.f x a b = some (inB x a b) := by
  unfold spec_l1In.f inB
  by_cases h : a ≤ x <;> simp [h]
theorem inB_iff (x a b : Int) : inB x a b = true ↔ a ≤ x ∧ x ≤ b := by simp [inB]

end Go.Proofs.Ytjmgbdepmbbepaa.Pure

namespace Go.Proofs.Ytjmgbdepmbbepaa.Pure
open Go.RowKit Go.Proofs.Ytjmgbdepmbbepaa.Pa Go.Proofs.Ytjmgbdepmbbepaa.Kit Go.Proofs.YtjmgbdepmbbepaaW.PrintWords Go.Proofs.YtjmgbdepmbbepaaW.PrintLast Go.Proofs.YtjmgbdepmbbepaaW.PrintMore

def circB (l : List Int) : Bool := l.all fun c => inB c 0 4
def noteB (n : Nat) (x : S61) : Bool := inB x.f0 1 5 && inB x.f1 0 (wrap64 ((n : Int) - 1))
def trunkB (l m : List Int) (a b : Int) (u v : List S61) : Bool :=
  decide (l.length = m.length) && inB (l.length : Int) 1 24 && (circB l && (u.all (noteB l.length) && (inB a 0 1000000 && decide ((u.length : Int) ≤ 60) && (circB m && (v.all (noteB l.length) && (inB b 0 1000000 && decide ((v.length : Int) ≤ 60)))))))

section impl
variable (l m : List Int) (a b : Int) (u v : List S61)
theorem iT102 (hv : v.length ≤ 9223372036854775807) : Ev (fun k => impl_TrunkOk.l202 k (l.length : Int) v (v.length : Int) 0 l m a b u v) (v.all (noteB l.length) && (inB b 0 1000000 && decide ((v.length : Int) ≤ 60))) := by
  refine all_loop (fun i k => impl_TrunkOk.l202 k (l.length : Int) v (v.length : Int) i l m a b u v) z61 (noteB l.length) v _ ?_ ?_ ?_
  · refine Ev.step (fun _ => rfl) (ev_neg (by omega) (ev_bindc (impl_in_eq _ _ _) (ev_const ?_)))
    cases inB b 0 1000000
    · simp
    · by_cases h : (v.length : Int) ≤ 60
      · simp [h, Int.not_lt.2 h]
      · simp [h, Int.not_le.1 h]
  · intro i hi hp r h
    have hp' : noteB l.length (rd_T61 v (i : Int)) = true := hp
    unfold noteB at hp'
    rw [Bool.and_eq_true] at hp'
    refine Ev.step (fun _ => rfl) (ev_pos (by omega) (ev_pos (by omega) (ev_pos (by omega) (ev_bindc ((impl_in_eq _ _ _).trans (congrArg some hp'.1)) (ev_pos rfl (ev_bindc ((impl_in_eq _ _ _).trans (congrArg some hp'.2)) (ev_pos rfl ?_)))))))
    rw [wrap_next i v.length hi hv]; exact h
  · intro i hi hp
    have hp' : noteB l.length (rd_T61 v (i : Int)) = false := hp
    unfold noteB at hp'
    refine Ev.step (fun _ => rfl) (ev_pos (by omega) (ev_pos (by omega) (ev_pos (by omega) ?_)))
    simp only [impl_in_eq, Option.bind_some]
    cases h1 : inB (rd_T61 v (i : Int)).f0 1 5
    · exact ev_neg (by simp) (ev_some _)
    refine ev_pos rfl ?_
    cases h2 : inB (rd_T61 v (i : Int)).f1 0 (wrap64 ((l.length : Int) - 1))
    · exact ev_neg (by simp) (ev_some _)
    rw [h1, h2] at hp'
    cases hp'
theorem iT101 (B : Bool) (hm : m.length ≤ 9223372036854775807) (hB : Ev (fun k => impl_TrunkOk.l202 k (l.length : Int) v (v.length : Int) 0 l m a b u v) B) : Ev (fun k => impl_TrunkOk.l201 k (l.length : Int) m (m.length : Int) 0 l m a b u v) (circB m && B) := by
  refine all_loop (fun i k => impl_TrunkOk.l201 k (l.length : Int) m (m.length : Int) i l m a b u v) 0 (fun c => inB c 0 4) m _ ?_ ?_ ?_
  · exact Ev.step (fun _ => rfl) (ev_neg (by omega) hB)
  · intro i hi hp r h
    have hp' : inB (rd m (i : Int)) 0 4 = true := hp
    refine Ev.step (fun _ => rfl) (ev_pos (by omega) (ev_pos (by omega) (ev_pos (by omega) (ev_bindc ((impl_in_eq _ _ _).trans (congrArg some hp')) (ev_pos rfl ?_)))))
    rw [wrap_next i m.length hi hm]; exact h
  · intro i hi hp
    have hp' : inB (rd m (i : Int)) 0 4 = false := hp
    exact Ev.step (fun _ => rfl) (ev_pos (by omega) (ev_pos (by omega) (ev_pos (by omega) (ev_bindc ((impl_in_eq _ _ _).trans (congrArg some hp')) (ev_neg (by simp) (ev_some _))))))
theorem iT2 (B : Bool) (hu : u.length ≤ 9223372036854775807) (hB : Ev (fun k => impl_TrunkOk.l201 k (l.length : Int) m (m.length : Int) 0 l m a b u v) B) : Ev (fun k => impl_TrunkOk.l102 k (l.length : Int) u (u.length : Int) 0 l m a b u v) (u.all (noteB l.length) && (inB a 0 1000000 && decide ((u.length : Int) ≤ 60) && B)) := by
  refine all_loop (fun i k => impl_TrunkOk.l102 k (l.length : Int) u (u.length : Int) i l m a b u v) z61 (noteB l.length) u _ ?_ ?_ ?_
  · refine Ev.step (fun _ => rfl) (ev_neg (by omega) (ev_bindc (impl_in_eq _ _ _) ?_))
    cases inB a 0 1000000
    · exact ev_neg (by simp) (ev_some _)
    · refine ev_pos rfl ?_
      by_cases h : (u.length : Int) ≤ 60
      · exact ev_neg (by omega) (ev_eq hB (by simp [h]))
      · exact ev_pos (by omega) (ev_eq (ev_some _) (by simp [h]))
  · intro i hi hp r h
    have hp' : noteB l.length (rd_T61 u (i : Int)) = true := hp
    unfold noteB at hp'
    rw [Bool.and_eq_true] at hp'
    refine Ev.step (fun _ => rfl) (ev_pos (by omega) (ev_pos (by omega) (ev_pos (by omega) (ev_bindc ((impl_in_eq _ _ _).trans (congrArg some hp'.1)) (ev_pos rfl (ev_bindc ((impl_in_eq _ _ _).trans (congrArg some hp'.2)) (ev_pos rfl ?_)))))))
    rw [wrap_next i u.length hi hu]; exact h
  · intro i hi hp
    have hp' : noteB l.length (rd_T61 u (i : Int)) = false := hp
    unfold noteB at hp'
    refine Ev.step (fun _ => rfl) (ev_pos (by omega) (ev_pos (by omega) (ev_pos (by omega) ?_)))
    simp only [impl_in_eq, Option.bind_some]
    cases h1 : inB (rd_T61 u (i : Int)).f0 1 5
    · exact ev_neg (by simp) (ev_some _)
    refine ev_pos rfl ?_
    cases h2 : inB (rd_T61 u (i : Int)).f1 0 (wrap64 ((l.length : Int) - 1))
    · exact ev_neg (by simp) (ev_some _)
    rw [h1, h2] at hp'
    cases hp'
theorem iT1 (B : Bool) (hl : l.length ≤ 9223372036854775807) (hB : Ev (fun k => impl_TrunkOk.l102 k (l.length : Int) u (u.length : Int) 0 l m a b u v) B) : Ev (fun k => impl_TrunkOk.l101 k (l.length : Int) l (l.length : Int) 0 l m a b u v) (circB l && B) := by
  refine all_loop (fun i k => impl_TrunkOk.l101 k (l.length : Int) l (l.length : Int) i l m a b u v) 0 (fun c => inB c 0 4) l _ ?_ ?_ ?_
  · exact Ev.step (fun _ => rfl) (ev_neg (by omega) hB)
  · intro i hi hp r h
    have hp' : inB (rd l (i : Int)) 0 4 = true := hp
    refine Ev.step (fun _ => rfl) (ev_pos (by omega) (ev_pos (by omega) (ev_pos (by omega) (ev_bindc ((impl_in_eq _ _ _).trans (congrArg some hp')) (ev_pos rfl ?_)))))
    rw [wrap_next i l.length hi hl]; exact h
  · intro i hi hp
    have hp' : inB (rd l (i : Int)) 0 4 = false := hp
    exact Ev.step (fun _ => rfl) (ev_pos (by omega) (ev_pos (by omega) (ev_pos (by omega) (ev_bindc ((impl_in_eq _ _ _).trans (congrArg some hp')) (ev_neg (by simp) (ev_some _))))))
theorem implTrunkOk_ev (hl : l.length ≤ 9223372036854775807) (hm : m.length ≤ 9223372036854775807) (hu : u.length ≤ 9223372036854775807) (hv : v.length ≤ 9223372036854775807) : Ev (fun k => impl_TrunkOk.f k l m a b u v) (trunkB l m a b u v) := by
  have hr := iT1 l m a b u v _ hl (iT2 l m a b u v _ hu (iT101 l m a b u v _ hm (iT102 l m a b u v hv)))
  have hj : ∀ x, Ev (fun k => impl_TrunkOk.j0 k (l.length : Int) x l m a b u v) (!x && (circB l && (u.all (noteB l.length) && (inB a 0 1000000 && decide ((u.length : Int) ≤ 60) && (circB m && (v.all (noteB l.length) && (inB b 0 1000000 && decide ((v.length : Int) ≤ 60)))))))) := by
    intro x
    cases x
    · have : Ev (fun k => impl_TrunkOk.j0 k (l.length : Int) false l m a b u v) _ := Ev.step (fun _ => rfl) hr
      simpa using this
    · have : Ev (fun k => impl_TrunkOk.j0 k (l.length : Int) true l m a b u v) false := Ev.step (f := fun _ => some false) (fun _ => rfl) (ev_some _)
      simpa using this
  unfold impl_TrunkOk.f trunkB
  by_cases h : l.length = m.length
  · refine ev_pos (by omega) (ev_bindc (impl_in_eq _ _ _) (ev_eq (hj _) ?_))
    simp [h]
  · refine ev_neg (by omega) (ev_eq (hj _) ?_)
    simp [h]
end impl

section spec
variable (l m : List Int) (a b : Int) (u v : List S61)
theorem sT102 (hv : v.length ≤ 9223372036854775807) : Ev (fun k => spec_TrunkOk.l202 k (l.length : Int) 0 l m a b u v) (v.all (noteB l.length) && (inB b 0 1000000 && decide ((v.length : Int) ≤ 60))) := by
  refine all_loop (fun i k => spec_TrunkOk.l202 k (l.length : Int) i l m a b u v) z61 (noteB l.length) v _ ?_ ?_ ?_
  · refine Ev.step (fun _ => rfl) (ev_neg (by omega) (ev_const ?_))
    simp only [spec_in_eq, Option.bind_some]
    cases inB b 0 1000000
    · simp
    · by_cases h : (v.length : Int) ≤ 60
      · simp [h, Int.not_lt.2 h]
      · simp [h, Int.not_le.1 h]
  · intro i hi hp r h
    have hp' : noteB l.length (rd_T61 v (i : Int)) = true := hp
    unfold noteB at hp'
    rw [Bool.and_eq_true] at hp'
    refine Ev.step (fun _ => rfl) (ev_pos (by omega) (ev_pos (by omega) (ev_bindc ((spec_in_eq _ _ _).trans (congrArg some hp'.1)) (ev_pos rfl (ev_bindc ((spec_in_eq _ _ _).trans (congrArg some hp'.2)) (ev_pos rfl ?_))))))
    rw [wrap_next i v.length hi hv]; exact h
  · intro i hi hp
    have hp' : noteB l.length (rd_T61 v (i : Int)) = false := hp
    unfold noteB at hp'
    refine Ev.step (fun _ => rfl) (ev_pos (by omega) (ev_pos (by omega) ?_))
    simp only [spec_in_eq, Option.bind_some]
    cases h1 : inB (rd_T61 v (i : Int)).f0 1 5
    · exact ev_neg (by simp) (ev_some _)
    refine ev_pos rfl ?_
    cases h2 : inB (rd_T61 v (i : Int)).f1 0 (wrap64 ((l.length : Int) - 1))
    · exact ev_neg (by simp) (ev_some _)
    rw [h1, h2] at hp'
    cases hp'
theorem sT101 (B : Bool) (hm : m.length ≤ 9223372036854775807) (he : l.length = m.length) (hB : Ev (fun k => spec_TrunkOk.l202 k (l.length : Int) 0 l m a b u v) B) : Ev (fun k => spec_TrunkOk.l201 k (l.length : Int) 0 l m a b u v) (circB m && B) := by
  refine all_loop (fun i k => spec_TrunkOk.l201 k (l.length : Int) i l m a b u v) 0 (fun c => inB c 0 4) m _ ?_ ?_ ?_
  · exact Ev.step (fun _ => rfl) (ev_neg (by omega) hB)
  · intro i hi hp r h
    have hp' : inB (rd m (i : Int)) 0 4 = true := hp
    refine Ev.step (fun _ => rfl) (ev_pos (by omega) (ev_pos (by omega) (ev_pos (by omega) (ev_bindc ((spec_in_eq _ _ _).trans (congrArg some hp')) (ev_pos rfl ?_)))))
    rw [wrap_next i m.length hi hm]; exact h
  · intro i hi hp
    have hp' : inB (rd m (i : Int)) 0 4 = false := hp
    exact Ev.step (fun _ => rfl) (ev_pos (by omega) (ev_pos (by omega) (ev_pos (by omega) (ev_bindc ((spec_in_eq _ _ _).trans (congrArg some hp')) (ev_neg (by simp) (ev_some _))))))
theorem sT2 (B : Bool) (hu : u.length ≤ 9223372036854775807) (hB : Ev (fun k => spec_TrunkOk.l201 k (l.length : Int) 0 l m a b u v) B) : Ev (fun k => spec_TrunkOk.l102 k (l.length : Int) 0 l m a b u v) (u.all (noteB l.length) && (inB a 0 1000000 && decide ((u.length : Int) ≤ 60) && B)) := by
  refine all_loop (fun i k => spec_TrunkOk.l102 k (l.length : Int) i l m a b u v) z61 (noteB l.length) u _ ?_ ?_ ?_
  · refine Ev.step (fun _ => rfl) (ev_neg (by omega) ?_)
    simp only [spec_in_eq, Option.bind_some]
    by_cases h : (u.length : Int) ≤ 60
    · refine ev_neg (by omega) ?_
      cases inB a 0 1000000
      · exact ev_neg (by simp) (ev_some _)
      · exact ev_pos rfl (ev_eq hB (by simp [h]))
    · exact ev_pos (by omega) (ev_eq (ev_some _) (by simp [h]))
  · intro i hi hp r h
    have hp' : noteB l.length (rd_T61 u (i : Int)) = true := hp
    unfold noteB at hp'
    rw [Bool.and_eq_true] at hp'
    refine Ev.step (fun _ => rfl) (ev_pos (by omega) (ev_pos (by omega) (ev_bindc ((spec_in_eq _ _ _).trans (congrArg some hp'.1)) (ev_pos rfl (ev_bindc ((spec_in_eq _ _ _).trans (congrArg some hp'.2)) (ev_pos rfl ?_))))))
    rw [wrap_next i u.length hi hu]; exact h
  · intro i hi hp
    have hp' : noteB l.length (rd_T61 u (i : Int)) = false := hp
    unfold noteB at hp'
    refine Ev.step (fun _ => rfl) (ev_pos (by omega) (ev_pos (by omega) ?_))
    simp only [spec_in_eq, Option.bind_some]
    cases h1 : inB (rd_T61 u (i : Int)).f0 1 5
    · exact ev_neg (by simp) (ev_some _)
    refine ev_pos rfl ?_
    cases h2 : inB (rd_T61 u (i : Int)).f1 0 (wrap64 ((l.length : Int) - 1))
    · exact ev_neg (by simp) (ev_some _)
    rw [h1, h2] at hp'
    cases hp'
theorem sT1 (B : Bool) (hl : l.length ≤ 9223372036854775807) (hB : Ev (fun k => spec_TrunkOk.l102 k (l.length : Int) 0 l m a b u v) B) : Ev (fun k => spec_TrunkOk.l101 k (l.length : Int) 0 l m a b u v) (circB l && B) := by
  refine all_loop (fun i k => spec_TrunkOk.l101 k (l.length : Int) i l m a b u v) 0 (fun c => inB c 0 4) l _ ?_ ?_ ?_
  · exact Ev.step (fun _ => rfl) (ev_neg (by omega) hB)
  · intro i hi hp r h
    have hp' : inB (rd l (i : Int)) 0 4 = true := hp
    refine Ev.step (fun _ => rfl) (ev_pos (by omega) (ev_pos (by omega) (ev_pos (by omega) (ev_bindc ((spec_in_eq _ _ _).trans (congrArg some hp')) (ev_pos rfl ?_)))))
    rw [wrap_next i l.length hi hl]; exact h
  · intro i hi hp
    have hp' : inB (rd l (i : Int)) 0 4 = false := hp
    exact Ev.step (fun _ => rfl) (ev_pos (by omega) (ev_pos (by omega) (ev_pos (by omega) (ev_bindc ((spec_in_eq _ _ _).trans (congrArg some hp')) (ev_neg (by simp) (ev_some _))))))
theorem specTrunkOk_ev (hl : l.length ≤ 9223372036854775807) (hm : m.length ≤ 9223372036854775807) (hu : u.length ≤ 9223372036854775807) (hv : v.length ≤ 9223372036854775807) : Ev (fun k => spec_TrunkOk.f k l m a b u v) (trunkB l m a b u v) := by
  have h0 : Ev (fun k => spec_TrunkOk.j0 k (l.length : Int) true l m a b u v) false := Ev.step (f := fun _ => some false) (fun _ => rfl) (ev_some _)
  unfold spec_TrunkOk.f trunkB
  refine ev_bindc (spec_in_eq _ _ _) ?_
  cases h1 : inB (l.length : Int) 1 24
  · refine ev_neg (by simp) (ev_eq h0 (by simp))
  · refine ev_pos rfl ?_
    by_cases h : l.length = m.length
    · have e : ((m.length : Int) != (l.length : Int)) = false := by simp [h]
      rw [e]
      have hr := sT1 l m a b u v _ hl (sT2 l m a b u v _ hu (sT101 l m a b u v _ hm h (sT102 l m a b u v hv)))
      have : Ev (fun k => spec_TrunkOk.j0 k (l.length : Int) false l m a b u v) _ := Ev.step (fun _ => rfl) hr
      exact ev_eq this (by simp [h])
    · have e : ((m.length : Int) != (l.length : Int)) = true := by simp; omega
      rw [e]
      exact ev_eq h0 (by simp [h])
end spec

end Go.Proofs.Ytjmgbdepmbbepaa.Pure

namespace Go.Proofs.Ytjmgbdepmbbepaa.Pure
open Go.RowKit Go.Proofs.Ytjmgbdepmbbepaa.Pa Go.Proofs.Ytjmgbdepmbbepaa.Kit Go.Proofs.YtjmgbdepmbbepaaW.PrintWords Go.Proofs.YtjmgbdepmbbepaaW.PrintLast Go.Proofs.YtjmgbdepmbbepaaW.PrintMore

def pairB (a b : Int) : Bool := (decide (a = 0) && decide (b = 0)) || (decide (a = 2) && decide (b = 3)) || (decide (a = 3) && decide (b = 2))
theorem settled_if (a b : Int) (R : Option Bool) : (if a = 0 then (if b = 0 then R else (if a = 2 then (if b = 3 then R else (if a = 3 then (if (b = 2) then R else (some false)) else (some false))) else (if a = 3 then (if (b = 2) then R else (some false)) else (some false)))) else (if a = 2 then (if b = 3 then R else (if a = 3 then (if (b = 2) then R else (some false)) else (some false))) else (if a = 3 then (if (b = 2) then R else (some false)) else (some false)))) = if pairB a b = true then R else some false := by
  unfold pairB
  by_cases h1 : a = 0 <;> by_cases h2 : a = 2 <;> by_cases h3 : a = 3 <;> by_cases h4 : b = 0 <;> by_cases h5 : b = 3 <;> by_cases h6 : b = 2 <;> simp_all
def pairsB (l m : List Int) : Bool := (List.range l.length).all fun i => pairB (rd l (i : Int)) (rd m (i : Int))
def settledB (l m : List Int) (a b : Int) (u v : List S61) : Bool := trunkB l m a b u v && !decide ((u.length : Int) + (v.length : Int) > 0) && pairsB l m
theorem trunkB_len {l m : List Int} {a b : Int} {u v : List S61} (h : trunkB l m a b u v = true) : l.length = m.length ∧ l.length ≤ 24 ∧ 1 ≤ l.length ∧ u.length ≤ 60 ∧ v.length ≤ 60 := by
  simp only [trunkB, Bool.and_eq_true, decide_eq_true_eq, inB_iff] at h
  omega
theorem implSettled_l0 (l m : List Int) (a b : Int) (u v : List S61) (hl : l.length ≤ 9223372036854775807) (he : l.length = m.length) : Ev (fun k => impl_Settled.l0 k l (l.length : Int) 0 l m a b u v) (pairsB l m && true) := by
  have hr : (List.range l.length).length = l.length := List.length_range
  refine all_loop (fun i k => impl_Settled.l0 k l (l.length : Int) i l m a b u v) 0 (fun i : Nat => pairB (rd l (i : Int)) (rd m (i : Int))) (List.range l.length) true ?_ ?_ ?_
  · rw [hr]; exact Ev.step (fun _ => rfl) (ev_neg (by omega) (ev_some _))
  · intro i hi hp r h
    rw [hr] at hi
    have e : (List.range l.length).getD i 0 = i := by simp [List.getD_eq_getElem?_getD, hi]
    rw [e] at hp
    refine Ev.step (fun _ => rfl) (ev_pos (by omega) (ev_pos (by omega) (ev_pos (by omega) (ev_pos (by omega) (Ev.congr (fun _ => settled_if _ _ _) (ev_pos hp ?_))))))
    rw [wrap_next i l.length hi hl]; exact h
  · intro i hi hp
    rw [hr] at hi
    have e : (List.range l.length).getD i 0 = i := by simp [List.getD_eq_getElem?_getD, hi]
    rw [e] at hp
    exact Ev.step (fun _ => rfl) (ev_pos (by omega) (ev_pos (by omega) (ev_pos (by omega) (ev_pos (by omega) (Ev.congr (fun _ => settled_if _ _ _) (ev_neg (by rw [hp]; simp) (ev_some _)))))))
theorem specSettled_l0 (l m : List Int) (a b : Int) (u v : List S61) (hl : l.length ≤ 9223372036854775807) (he : l.length = m.length) : Ev (fun k => spec_Settled.l0 k 0 l m a b u v) (pairsB l m && true) := by
  have hr : (List.range l.length).length = l.length := List.length_range
  refine all_loop (fun i k => spec_Settled.l0 k i l m a b u v) 0 (fun i : Nat => pairB (rd l (i : Int)) (rd m (i : Int))) (List.range l.length) true ?_ ?_ ?_
  · rw [hr]; exact Ev.step (fun _ => rfl) (ev_neg (by omega) (ev_some _))
  · intro i hi hp r h
    rw [hr] at hi
    have e : (List.range l.length).getD i 0 = i := by simp [List.getD_eq_getElem?_getD, hi]
    rw [e] at hp
    refine Ev.step (fun _ => rfl) (ev_pos (by omega) (ev_pos (by omega) (ev_pos (by omega) (Ev.congr (fun _ => settled_if _ _ _) (ev_pos hp ?_)))))
    rw [wrap_next i l.length hi hl]; exact h
  · intro i hi hp
    rw [hr] at hi
    have e : (List.range l.length).getD i 0 = i := by simp [List.getD_eq_getElem?_getD, hi]
    rw [e] at hp
    exact Ev.step (fun _ => rfl) (ev_pos (by omega) (ev_pos (by omega) (ev_pos (by omega) (Ev.congr (fun _ => settled_if _ _ _) (ev_neg (by rw [hp]; simp) (ev_some _))))))
theorem implSettled_ev (l m : List Int) (a b : Int) (u v : List S61) (hl : l.length ≤ 9223372036854775807) (hm : m.length ≤ 9223372036854775807) (hu : u.length ≤ 9223372036854775807) (hv : v.length ≤ 9223372036854775807) : Ev (fun k => impl_Settled.f k l m a b u v) (settledB l m a b u v) := by
  unfold impl_Settled.f settledB
  refine Ev.bind (implTrunkOk_ev l m a b u v hl hm hu hv) ?_
  have h0 : Ev (fun k => impl_Settled.j0 k true l m a b u v) false := Ev.step (f := fun _ => some false) (fun _ => rfl) (ev_some _)
  cases h : trunkB l m a b u v
  · exact ev_neg (by simp) (ev_eq h0 (by simp))
  · have hb := trunkB_len h
    refine ev_pos rfl ?_
    have e : wrap64 ((u.length : Int) + (v.length : Int)) = (u.length : Int) + (v.length : Int) := wrap_in (by omega) (by omega)
    rw [e]
    by_cases h2 : (u.length : Int) + (v.length : Int) > 0
    · rw [decide_eq_true h2]
      exact ev_eq h0 (by simp)
    · rw [decide_eq_false h2]
      have : Ev (fun k => impl_Settled.j0 k false l m a b u v) _ := Ev.step (fun _ => rfl) (implSettled_l0 l m a b u v hl hb.1)
      exact ev_eq this (by simp)
theorem specSettled_ev (l m : List Int) (a b : Int) (u v : List S61) (hl : l.length ≤ 9223372036854775807) (hm : m.length ≤ 9223372036854775807) (hu : u.length ≤ 9223372036854775807) (hv : v.length ≤ 9223372036854775807) : Ev (fun k => spec_Settled.f k l m a b u v) (settledB l m a b u v) := by
  unfold spec_Settled.f settledB
  refine Ev.bind (specTrunkOk_ev l m a b u v hl hm hu hv) ?_
  have h0 : Ev (fun k => spec_Settled.j0 k true l m a b u v) false := Ev.step (f := fun _ => some false) (fun _ => rfl) (ev_some _)
  cases h : trunkB l m a b u v
  · exact ev_neg (by simp) (ev_eq h0 (by simp))
  · have hb := trunkB_len h
    refine ev_pos rfl ?_
    have e : wrap64 ((u.length : Int) + (v.length : Int)) = (u.length : Int) + (v.length : Int) := wrap_in (by omega) (by omega)
    rw [e]
    by_cases h2 : (u.length : Int) + (v.length : Int) > 0
    · rw [decide_eq_true h2]
      exact ev_eq h0 (by simp)
    · rw [decide_eq_false h2]
      have : Ev (fun k => spec_Settled.j0 k false l m a b u v) _ := Ev.step (fun _ => rfl) (specSettled_l0 l m a b u v hl hb.1)
      exact ev_eq this (by simp)

end Go.Proofs.Ytjmgbdepmbbepaa.Pure

namespace Go.Proofs.Ytjmgbdepmbbepaa.Pure
open Go.RowKit Go.Proofs.Ytjmgbdepmbbepaa.Pa Go.Proofs.Ytjmgbdepmbbepaa.Kit Go.Proofs.YtjmgbdepmbbepaaW.PrintWords Go.Proofs.YtjmgbdepmbbepaaW.PrintLast

theorem FnExactSettled : laws_FnExactSettled.Pure := by
  intro l m a b u v h
  have h1 := h.1.1.1
  have h2 := h.1.2.1
  have h3 := h.2.2.1.1
  have h4 := h.2.2.2.1
  have hl : l.length ≤ 17592186044416 := by omega
  have hm : m.length ≤ 17592186044416 := by omega
  have hu : u.length ≤ 17592186044416 := by omega
  have hv : v.length ≤ 17592186044416 := by omega
  have hu' : (u.map note).length ≤ 9223372036854775807 := by rw [List.length_map]; omega
  have hv' : (v.map note).length ≤ 9223372036854775807 := by rw [List.length_map]; omega
  have hl' : l.length ≤ 9223372036854775807 := by omega
  have hm' : m.length ≤ 9223372036854775807 := by omega
  refine Ev.rounds (g := fun k => laws_FnExactSettled.f k l m a b u v) ?_
  unfold laws_FnExactSettled.f
  obtain ⟨t, ht⟩ := szTrunk_ev l m a b u v 1048576
  refine Ev.bind ht ?_
  by_cases h0 : t < 0
  · exact ev_pos h0 (ev_some _)
  · have hto := toTrunk_ev l m a b u v hl hm hu hv
    exact ev_neg h0 (Ev.bind hto (Ev.bind (specSettled_ev _ _ _ _ _ _ hl' hm' hu' hv') (Ev.bind hto (Ev.bind (implSettled_ev _ _ _ _ _ _ hl' hm' hu' hv') (ev_neg (by simp) (Ev.bind hto (Ev.bind (eqTrunk_ev _ _ _ _ _ _ hl' hm' hu' hv') (ev_pos rfl (ev_some _)))))))))

end Go.Proofs.Ytjmgbdepmbbepaa.Pure

namespace Go.Proofs.Ytjmgbdepmbbepaa.Read
open Go.RowKit Go.Proofs.YtjmgbdepmbbepaaW.PrintWords Go.ChangeShapes Go.WideShapes

def Tells (P : Program) (t : TypeId) {α : Type} (d : Kd α) (ok : α → Prop) : Prop :=
  ∀ (H : Type) (enc : TypeId × Value → H) (W : World) (base : Nat) (spare : Nat → Bool) (held : Bool) (fuel : Nat) (cs : List Value) (x : DataW H × List MemPlace),
    DataW.trod enc P W base spare held fuel t cs = some x → (∀ b ∈ x.1.weights P t, b ≤ reachBytes) → ∃ y : α, d.K W y cs ∧ ok y
def TellsF (P : Program) (fs : List Field) (off : Nat) {α : Type} (d : Kd α) (ok : α → Prop) : Prop :=
  ∀ (H : Type) (enc : TypeId × Value → H) (W : World) (base : Nat) (spare : Nat → Bool) (held : Bool) (fuel : Nat) (cs : List Value) (xs : List (DataW H × List MemPlace)),
    (∀ (i : Nat) (f : Field), fs[i]? = some f → DataW.trod enc P W base spare held fuel f.type ((cs.drop f.offset).take (P.cellsOf f.type)) = xs[i]?) → xs.length = fs.length → cs.length = off + d.sz →
    (∀ (i : Nat) (f : Field) x, fs[i]? = some f → xs[i]? = some x → ∀ b ∈ x.1.weights P f.type, b ≤ reachBytes) → ∃ y : α, d.K W y (cs.drop off) ∧ ok y

theorem Tells.int {P : Program} {t : TypeId} {k : IntKind} (ht : P.underlying t = some (.int k)) : Tells P t (Kd.int k) (fun n => (Lit.int k n).wf = true) := by
  intro H enc W base spare held fuel cs x h _
  cases fuel with
  | zero => simp [DataW.trod] at h
  | succ m =>
    unfold DataW.trod at h
    rw [ht] at h
    split at h <;> simp_all
    obtain ⟨⟨_, h1⟩, _⟩ := h
    exact ⟨_, rfl, h1⟩
theorem Tells.bool {P : Program} {t : TypeId} (ht : P.underlying t = some .bool) : Tells P t Kd.bool (fun _ => True) := by
  intro H enc W base spare held fuel cs x h _
  cases fuel with
  | zero => simp [DataW.trod] at h
  | succ m =>
    unfold DataW.trod at h
    rw [ht] at h
    split at h <;> simp_all
    rename_i b
    cases b
    · exact .inl rfl
    · exact .inr rfl
theorem weights_all {H : Type} {P : Program} {e : TypeId} {ds : List (DataW H)} {d : DataW H} (hd : d ∈ ds) {b : Nat} (hb : b ∈ d.weights P e) : b ∈ DataW.weightsAll P e ds := by
  induction ds with
  | nil => cases hd
  | cons a r ih =>
    simp only [DataW.weightsAll, List.mem_append]
    rcases List.mem_cons.1 hd with rfl | hd
    · exact .inl hb
    · exact .inr (ih hd)
theorem Tells.slice {P : Program} {t e : TypeId} (ht : P.underlying t = some (.slice e)) {α : Type} {d : Kd α} {ok : α → Prop} (z : α) (he : Tells P e d ok) (hs : P.cellsOf e = d.sz) {B : Nat} (hB : P.bytesOf e = B) :
    Tells P t (Kd.slice e d) (fun xs => xs.length * B ≤ 140737488351232 ∧ xs.length ≤ maxLen ∧ ∀ x ∈ xs, ok x) := by
  intro H enc W base spare held fuel cs x h hw
  rcases Go.Deep.open_slice ht h with ⟨rfl, rfl⟩ | ⟨a, len, cap, m, n, D, Pl, rfl, hb, hl, hm, hmm, rfl, hx⟩
  · exact ⟨[], ⟨none, 0, rfl, Nat.le_refl _, Kd.C_nil _ _⟩, by simp [maxLen]⟩
  · have hlm : len ≤ m := by rw [hmm]; split <;> omega
    have hel : ∀ i, i < len → ∃ y : α, (∃ c, W.cells? base (a.add (i * P.cellsOf e)) (P.cellsOf e) = some c ∧ d.K W y c) ∧ ok y := by
      intro i hi
      obtain ⟨c, hc, hd⟩ := hx i (by omega)
      obtain ⟨y, hy, hok⟩ := he H enc W base spare held n c _ hd (fun b hb => hw b (by
        simp only [DataW.weights, ht, List.mem_cons, List.mem_append]
        exact .inr (.inl (weights_all (List.mem_map.2 ⟨i, List.mem_range.2 hi, rfl⟩) hb))))
      exact ⟨y, ⟨c, hc, hy⟩, hok⟩
    have : Inhabited α := ⟨z⟩
    obtain ⟨f, hf⟩ := Go.Deep.choose_lt hel
    have hlen : ((List.range len).map f).length = len := by simp
    refine ⟨(List.range len).map f, ⟨some a, cap, by rw [hlen], by rw [hlen]; exact hl, ?_⟩, ?_, by rw [hlen]; exact Nat.le_trans hl hm, ?_⟩
    · rw [hlen]
      refine ⟨by simp, by have := hm; simp only [maxLen] at this; omega, fun hp => ⟨a, rfl, ?_⟩⟩
      intro j p hj
      have hjl : j < len := by
        rcases Nat.lt_or_ge j len with h | h
        · exact h
        · simp [h] at hj
      have hp : f j = p := by simpa [hjl] using hj
      subst hp
      obtain ⟨⟨c, hc, hK⟩, _⟩ := hf j hjl
      refine ⟨c, d.K_len hK, hK, ?_⟩
      intro i u hu
      have hc' := World.cells?_some hc
      have hi : i < d.sz := by
        rw [← d.K_len hK]
        exact (List.getElem?_eq_some_iff.1 hu).1
      rw [hs] at hc'
      have := hc'.2.2 i hi
      rw [hu] at this
      rw [← this, Go.Deep.add_add]
    · rw [hlen]
      have := hw ((((List.range len).map D).length + ((List.range (m - len)).map fun j => D (len + j)).length) * P.bytesOf e) (by simp only [DataW.weights, ht]; exact List.mem_cons_self)
      rw [hB] at this
      simp only [List.length_map, List.length_range] at this
      have h2 : len * B ≤ (len + (m - len)) * B := Nat.mul_le_mul_right _ (by omega)
      unfold reachBytes at this
      omega
    · intro y hy
      obtain ⟨i, hi, rfl⟩ := List.mem_map.1 hy
      exact (hf i (List.mem_range.1 hi)).2
theorem TellsF.one {P : Program} {f : Field} {off : Nat} {α : Type} {d : Kd α} {ok : α → Prop} (h : Tells P f.type d ok) (ho : f.offset = off) (hc : P.cellsOf f.type = d.sz) : TellsF P [f] off d ok := by
  intro H enc W base spare held fuel cs xs hx hl hcs hw
  match xs, hl with
  | [x], _ =>
    have h0 := hx 0 f rfl
    rw [ho, hc, List.take_of_length_le (by rw [List.length_drop]; omega)] at h0
    exact h H enc W base spare held fuel _ x h0 (hw 0 f x rfl rfl)
theorem TellsF.cons {P : Program} {f : Field} {fs : List Field} {off : Nat} {α β : Type} {d : Kd α} {d' : Kd β} {ok : α → Prop} {ok' : β → Prop} (h : Tells P f.type d ok) (ho : f.offset = off) (hc : P.cellsOf f.type = d.sz)
    (r : TellsF P fs (off + d.sz) d' ok') : TellsF P (f :: fs) off (Kd.pair d d') (fun x => ok x.1 ∧ ok' x.2) := by
  intro H enc W base spare held fuel cs xs hx hl hcs hw
  match xs, hl with
  | x :: xs, hl =>
    have hsz : (Kd.pair d d').sz = d.sz + d'.sz := rfl
    have h0 := hx 0 f rfl
    rw [ho, hc] at h0
    obtain ⟨y, hy, hok⟩ := h H enc W base spare held fuel _ x h0 (hw 0 f x rfl rfl)
    obtain ⟨y', hy', hok'⟩ := r H enc W base spare held fuel cs xs (fun i g hg => hx (i + 1) g hg) (by simpa using hl) (by omega) (fun i g z hg hz => hw (i + 1) g z hg hz)
    refine ⟨(y, y'), ⟨_, _, ?_, hy, hy'⟩, hok, hok'⟩
    rw [← List.drop_drop]
    exact (List.take_append_drop _ _).symm
theorem weights_each {H : Type} {P : Program} {fs : List Field} : ∀ {xs : List (DataW H × List MemPlace)} {i : Nat} {f : Field} {x : DataW H × List MemPlace}, fs[i]? = some f → xs[i]? = some x → ∀ b ∈ x.1.weights P f.type, b ∈ DataW.weightsEach P (fs.map (·.type)) (xs.map (·.1)) := by
  intro xs i f x hf hx b hb
  exact DataW.weights_mem_each (j := i) (t := f.type) (d := x.1) (by simp [hf]) (by simp [hx]) b hb
theorem Tells.struct {P : Program} {t : TypeId} {fs : Array Field} (ht : P.underlying t = some (.struct fs)) {α β : Type} {d : Kd α} {ok : α → Prop} (h : TellsF P fs.toList 0 d ok) (hc : P.cellsOf t = d.sz) (f : β → α) (g : α → β) (hfg : ∀ a, f (g a) = a) :
    Tells P t (Kd.iso d f) (fun y => ok (f y)) := by
  intro H enc W base spare held fuel cs x hx hw
  obtain ⟨xs, n, _, rfl, hl, hlen, hf⟩ := DataW.trod_struct ht hx
  obtain ⟨y, hy, hok⟩ := h H enc W base spare held n cs xs (fun i f hi => hf i f (by rw [← Array.getElem?_toList]; exact hi)) (by simpa using hlen) (by omega) (fun i f x hi hx b hb => hw b (by
    simp only [DataW.weights, ht]
    exact weights_each hi hx b hb))
  refine ⟨g y, ?_, by show ok (f (g y)); rw [hfg]; exact hok⟩
  show d.K W (f (g y)) cs
  rw [hfg]
  simpa using hy
theorem Tells.array {P : Program} {t e : TypeId} {n : Nat} (ht : P.underlying t = some (.array n e)) {α β : Type} {d : Kd α} {ok : α → Prop} (h : TellsF P ((List.range n).map fun i => { name := "", type := e, offset := i * P.cellsOf e, embedded := false, tag := "", pkgPath := "", byteOffset := 0 }) 0 d ok)
    (hc : P.cellsOf t = d.sz) (f : β → α) (g : α → β) (hfg : ∀ a, f (g a) = a) : Tells P t (Kd.iso d f) (fun y => ok (f y)) := by
  intro H enc W base spare held fuel cs x hx hw
  obtain ⟨xs, m, _, rfl, hl, hlen, hf⟩ := DataW.trod_array ht hx
  obtain ⟨y, hy, hok⟩ := h H enc W base spare held m cs xs (fun i f hi => by
      have hin : i < n := by
        rcases Nat.lt_or_ge i n with h | h
        · exact h
        · simp [h] at hi
      simp [hin] at hi
      subst hi
      exact hf i hin) (by simpa using hlen) (by omega) (fun i f x hi hx b hb => hw b (by
    have hin : i < n := by
      rcases Nat.lt_or_ge i n with h | h
      · exact h
      · simp [h] at hi
    simp [hin] at hi
    subst hi
    simp only [DataW.weights, ht]
    exact weights_all (List.mem_map.2 ⟨x, List.mem_iff_getElem?.2 ⟨i, hx⟩, rfl⟩) hb))
  refine ⟨g y, ?_, by show ok (f (g y)); rw [hfg]; exact hok⟩
  show d.K W (f (g y)) cs
  rw [hfg]
  simpa using hy

theorem okWide_agg {P : Program} {w : World} {r : Reach} {base : Nat} {t : TypeId} {v : Value} (ht : (∃ fs, P.underlying t = some (.struct fs)) ∨ ∃ n e, P.underlying t = some (.array n e)) (h : Value.okWide P w r base t v) : ∃ cs, v = .agg cs ∧ cs.size = P.cellsOf t := by
  rcases ht with ⟨fs, ht⟩ | ⟨n, e, ht⟩
  all_goals
    simp only [Value.okWide, ht] at h
    obtain ⟨cs, h1, h2, _⟩ := h
    exact ⟨cs, h1, h2⟩
theorem Tells.agg {P : Program} {t : TypeId} {α : Type} {d : Kd α} {ok : α → Prop} (h : Tells P t d ok) {H : Type} {enc : TypeId × Value → H} {W : World} {base : Nat} {spare : Nat → Bool} {held : Bool} {cs : Array Value} {x : DataW H} {ps : List MemPlace}
    {ts : List TypeId} {ds : List (DataW H)} (hsz : (DataW.weightsEach P ts ds).all (· ≤ reachBytes) = true) (j : Nat) (ht : ts[j]? = some t) (hd : ds[j]? = some x)
    (hx : DataW.Trod enc P W base spare held t (.agg cs) x ps) : ∃ y : α, d.K W y cs.toList ∧ ok y := by
  obtain ⟨fuel, hf⟩ := hx
  have hf' : DataW.trod enc P W base spare held fuel t cs.toList = some (x, ps) := by simpa [Value.cells] using hf
  exact h H enc W base spare held fuel cs.toList (x, ps) hf' (fun b hb => by simpa using List.all_eq_true.1 hsz b (DataW.weights_mem_each ht hd b hb))
end Go.Proofs.Ytjmgbdepmbbepaa.Read

namespace Go.Proofs.Ytjmgbdepmbbepaa.fnExactSettled
open Go.ChangeShapes Go.WideShapes Go.ChangeAt Go.RowKit
open Go.ChangeMaps (open_string shut_string)
open Go.Proofs.Ytjmgbdepmbbepaa.Pa Go.Proofs.Ytjmgbdepmbbepaa.Read Go.Proofs.YtjmgbdepmbbepaaW.PrintWords
set_option linter.unusedVariables false
theorem own : ownKnob Try.prog.godebug = none := by kernel_rfl
theorem laidOut : laidOutB Try.prog = true := by kernel_rfl
theorem T28 : Tells Try.prog 28 k28 (fun x => ((x.f0.length * 8 ≤ 140737488351232 ∧ x.f0.length ≤ maxLen ∧ ∀ x1_ ∈ x.f0, (Lit.int .i64 x1_).wf = true) ∧ (x.f1.length * 8 ≤ 140737488351232 ∧ x.f1.length ≤ maxLen ∧ ∀ x1_ ∈ x.f1, (Lit.int .i64 x1_).wf = true))) := Tells.array Try.underlying28 (TellsF.cons (Tells.slice Try.underlying27 (0 : Int) (Tells.int Try.underlying3) (by kernel_rfl) (by kernel_rfl)) (by kernel_rfl) (by kernel_rfl) (TellsF.one (Tells.slice Try.underlying27 (0 : Int) (Tells.int Try.underlying3) (by kernel_rfl) (by kernel_rfl)) (by kernel_rfl) (by kernel_rfl))) (by kernel_rfl) (fun x : S28 => (x.f0, x.f1)) (fun a => ⟨a.1, a.2⟩) (fun _ => rfl)
theorem T29 : Tells Try.prog 29 k29 (fun x => ((Lit.int .i64 x.f0).wf = true ∧ (Lit.int .i64 x.f1).wf = true)) := Tells.array Try.underlying29 (TellsF.cons (Tells.int Try.underlying3) (by kernel_rfl) (by kernel_rfl) (TellsF.one (Tells.int Try.underlying3) (by kernel_rfl) (by kernel_rfl))) (by kernel_rfl) (fun x : S29 => (x.f0, x.f1)) (fun a => ⟨a.1, a.2⟩) (fun _ => rfl)
theorem T90 : Tells Try.prog 90 k90 (fun x => ((Lit.int .i64 x.f0).wf = true ∧ (Lit.int .i64 x.f1).wf = true)) := Tells.struct Try.underlying90 (TellsF.cons (Tells.int Try.underlying3) (by kernel_rfl) (by kernel_rfl) (TellsF.one (Tells.int Try.underlying3) (by kernel_rfl) (by kernel_rfl))) (by kernel_rfl) (fun x : S90 => (x.f0, x.f1)) (fun a => ⟨a.1, a.2⟩) (fun _ => rfl)
theorem T46 : Tells Try.prog 46 k46 (fun x => ((x.f0.length * 16 ≤ 140737488351232 ∧ x.f0.length ≤ maxLen ∧ ∀ x1_ ∈ x.f0, ((Lit.int .i64 x1_.f0).wf = true ∧ (Lit.int .i64 x1_.f1).wf = true)) ∧ (x.f1.length * 16 ≤ 140737488351232 ∧ x.f1.length ≤ maxLen ∧ ∀ x1_ ∈ x.f1, ((Lit.int .i64 x1_.f0).wf = true ∧ (Lit.int .i64 x1_.f1).wf = true)))) := Tells.array Try.underlying46 (TellsF.cons (Tells.slice Try.underlying45 z90 T90 (by kernel_rfl) (by kernel_rfl)) (by kernel_rfl) (by kernel_rfl) (TellsF.one (Tells.slice Try.underlying45 z90 T90 (by kernel_rfl) (by kernel_rfl)) (by kernel_rfl) (by kernel_rfl))) (by kernel_rfl) (fun x : S46 => (x.f0, x.f1)) (fun a => ⟨a.1, a.2⟩) (fun _ => rfl)
theorem T48 : Tells Try.prog 48 k48 (fun x => (((x.f0.f0.length * 8 ≤ 140737488351232 ∧ x.f0.f0.length ≤ maxLen ∧ ∀ x1_ ∈ x.f0.f0, (Lit.int .i64 x1_).wf = true) ∧ (x.f0.f1.length * 8 ≤ 140737488351232 ∧ x.f0.f1.length ≤ maxLen ∧ ∀ x1_ ∈ x.f0.f1, (Lit.int .i64 x1_).wf = true)) ∧ (((Lit.int .i64 x.f1.f0).wf = true ∧ (Lit.int .i64 x.f1.f1).wf = true) ∧ ((x.f2.f0.length * 16 ≤ 140737488351232 ∧ x.f2.f0.length ≤ maxLen ∧ ∀ x1_ ∈ x.f2.f0, ((Lit.int .i64 x1_.f0).wf = true ∧ (Lit.int .i64 x1_.f1).wf = true)) ∧ (x.f2.f1.length * 16 ≤ 140737488351232 ∧ x.f2.f1.length ≤ maxLen ∧ ∀ x1_ ∈ x.f2.f1, ((Lit.int .i64 x1_.f0).wf = true ∧ (Lit.int .i64 x1_.f1).wf = true)))))) := Tells.struct Try.underlying48 (TellsF.cons T28 (by kernel_rfl) (by kernel_rfl) (TellsF.cons T29 (by kernel_rfl) (by kernel_rfl) (TellsF.one T46 (by kernel_rfl) (by kernel_rfl)))) (by kernel_rfl) (fun x : S48 => (x.f0, (x.f1, x.f2))) (fun a => ⟨a.1, a.2.1, a.2.2⟩) (fun _ => rfl)
set_option maxRecDepth 100000 in
set_option maxHeartbeats 1000000 in
theorem lifted (os : Os) (started : os.Started) (H : Type) (enc : TypeId × Value → H) :
    ReturnsInHanded {} Try.checked os 6 .any (Rows.fnExactSettledSpec.pre6 enc Try.prog Try.f6 Rows.fnExactSettledRow.domain false) (Rows.fnExactSettledSpec.post enc Try.prog Try.f6 false true false false) := by
  refine returnsInHanded_of_change_sized (C := Try.checked) own started (by kernel_rfl) Try.func6
    (ChangeSpec.witness6 (enc := enc) (C := Try.checked) false ⟨#[], #[.agg #[.slice none 0 0, .slice none 0 0, .int .i64 0, .int .i64 0, .slice none 0 0, .slice none 0 0]], []⟩ 8 (by kernel_rfl) (by kernel_rfl) (by kernel_rfl) (by kernel_rfl)) ?_
  intro W base args ds gs before hval0 hW hcnd hsz0 _
  have hsz : (DataW.weightsEach Try.prog (Try.f6.params.toList ++ Rows.fnExactSettledSpec.plain.varTypes Try.prog) (ds ++ gs)).all (· ≤ reachBytes) = true := hsz0
  have hval : ∀ (j : Nat) t v, Try.f6.params[j]? = some t → args[j]? = some v → Value.okWide Try.prog W .any base t v := hval0
  have hW' := hW
  obtain ⟨p, q, hA0, hV, rfl, hfz, hnd⟩ := hW
  have hA : DataW.TrodAll enc Try.prog W 0 (fun _ => true) true Try.f6.params.toList args.toList ds p := hA0
  rw [Try.params6] at hA hval hsz
  obtain ⟨v0, vs0, d0, ds0, p0, q0, hargs, rfl, rfl, h0, r0⟩ := trodAll_cons hA
  obtain ⟨rfl, rfl, rfl⟩ := trodAll_nil r0
  obtain rfl : args = #[v0] := by cases args; simp_all
  obtain ⟨rfl, rfl⟩ := trodVars_none hV
  obtain ⟨cs0, rfl, _⟩ := okWide_agg (.inl ⟨_, Try.underlying48⟩) (hval 0 48 v0 rfl rfl)
  have k0 := h0
  have lt0 : ∀ x ∈ p0, x.block < W.heap.size := by obtain ⟨m, hm⟩ := k0; exact DataW.trod_lt m _ _ _ hm
  obtain ⟨y0, hK0, o0⟩ := Tells.agg T48 hsz 0 rfl rfl h0
  obtain ⟨A0_0, c0_0, A0_1, c0_1, A0_4, c0_4, A0_5, c0_5, e0, hc0_0, hr0_0, hc0_1, hr0_1, hc0_4, hr0_4, hc0_5, hr0_5⟩ := k48_open hK0
  obtain rfl : cs0 = #[.slice A0_0 y0.f0.f0.length c0_0, .slice A0_1 y0.f0.f1.length c0_1, .int .i64 y0.f1.f0, .int .i64 y0.f1.f1, .slice A0_4 y0.f2.f0.length c0_4, .slice A0_5 y0.f2.f1.length c0_5] := Array.toList_inj.1 e0
  clear hA0 hval0 hsz0 hsz
  refine (Pa.laws_FnExactSettled.walk Pure.FnExactSettled A0_0 c0_0 y0.f0.f0 A0_1 c0_1 y0.f0.f1 y0.f1.f0 y0.f1.f1 A0_4 c0_4 y0.f2.f0 A0_5 c0_5 y0.f2.f1 W hr0_0 hc0_0 hr0_1 hc0_1 hr0_4 hc0_4 hr0_5 hc0_5 o0).mono fun e W' ⟨he, bel⟩ => ?_
  subst he
  exact ⟨_, rfl, _, _, _, [], _, [], hW', trodAll_mk1 (shut_bool Try.underlying4 _), (trodAll_cons_mk (Below.trod laidOut (by kernel_rfl) (of_decide_eq_true (by kernel_rfl)) k0 bel lt0) trodAll_mk0), rfl, bel.frame _, fun h => by cases h⟩
theorem over : Rows.fnExactSettledRow.holds Try.pinned (OpenSpec.ofChange Rows.fnExactSettledSpec) :=
  OpenClaim.holds_of_wide 6 Try.f6 rfl rfl rfl rfl rfl rfl rfl ⟨rfl, rfl, rfl, rfl, rfl⟩ rfl rfl rfl rfl rfl (by kernel_rfl) Try.func6 (by kernel_rfl)
    (of_decide_eq_true (by kernel_rfl)) (by unfold Func.isWrapper; first | (rw [if_pos (by decide +kernel)]; kernel_rfl) | (rw [if_neg (by decide +kernel)]; exact ⟨rfl, rfl⟩))
    (fun os started H enc _ => lifted os started H enc)
theorem proved : Rows.FnExactSettledSaid := over
#print axioms proved
end Go.Proofs.Ytjmgbdepmbbepaa.fnExactSettled
namespace Go.Proofs.Ytjmgbdepmbbepaa
theorem fnExactSettled_holds : Rows.FnExactSettledSaid := fnExactSettled.proved
end Go.Proofs.Ytjmgbdepmbbepaa

