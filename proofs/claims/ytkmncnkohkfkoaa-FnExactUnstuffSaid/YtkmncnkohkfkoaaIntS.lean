/- What the laws' own functions on slices of whole numbers come to: no condition. -/
import Derived.Test.YtkmncnkohkfkoaaKit
import Derived.Test.YtkmncnkohkfkoaaPaxlawstoIntS
import Derived.Test.YtkmncnkohkfkoaaPaxlawseqIntS
import Derived.Test.YtkmncnkohkfkoaaPaxlawsmarkIntS
import Derived.Test.YtkmncnkohkfkoaaPaxlawsheldIntS
namespace Go.Proofs.Ytkmncnkohkfkoaa.Pure
open Go.RowKit Go.Proofs.Ytkmncnkohkfkoaa.Pa Go.Proofs.Ytkmncnkohkfkoaa.Kit Go.Proofs.YtkmncnkohkfkoaaW.PrintWords Go.Proofs.YtkmncnkohkfkoaaW.PrintLast Go.Proofs.YtkmncnkohkfkoaaW.PrintMore

theorem toIntS_ev (l : List Int) (hl : l.length ≤ 35184372088832) : Ev (fun k => laws_toIntS.f k l) l := by
  unfold laws_toIntS.f
  refine ev_pos (by omega) (ev_pos (by omega) ?_)
  have hz : ((l.length : Int)).toNat = l.length := by omega
  rw [hz]
  have h := ev_upto l.length (fun i k => laws_toIntS.l0 k l (l.take i ++ (List.replicate l.length 0).drop i) (i : Int)) l ?_ ?_ 0 (by omega)
  · simpa using h
  · refine Ev.step (fun _ => rfl) (ev_neg (by omega) (ev_const ?_))
    rw [List.take_length, List.drop_eq_nil_of_le (by simp), List.append_nil]
  · intro i hi h
    refine Ev.step (fun _ => rfl) (ev_pos (by omega) (ev_pos (by omega) (ev_pos ?_ ?_)))
    · rw [fill_length l _ i (by omega) (by simp)]; omega
    · rw [wrap_next i l.length hi (by omega)]
      have e := fill_set l (List.replicate l.length 0) 0 i hi (by simpa using hi)
      show Ev (fun k => laws_toIntS.l0 k l ((l.take i ++ (List.replicate l.length 0).drop i).set ((i : Int)).toNat (l.getD ((i : Int)).toNat 0)) _) l
      rw [Int.toNat_natCast] at e ⊢
      rw [e]; exact h

theorem eqIntS_ev (l : List Int) (hl : l.length ≤ 9223372036854775807) : Ev (fun k => laws_eqIntS.f k l l) true := by
  unfold laws_eqIntS.f
  refine ev_pos rfl ?_
  refine ev_upto l.length (fun i k => laws_eqIntS.l0 k l l (i : Int)) true ?_ ?_ 0 (by omega)
  · exact Ev.step (fun _ => rfl) (ev_neg (by omega) (ev_some _))
  · intro i hi h
    refine Ev.step (fun _ => rfl) (ev_pos (by omega) (ev_pos (by omega) (ev_pos (by omega) (ev_pos rfl ?_))))
    rw [wrap_next i l.length hi hl]; exact h

/-- The marks from k on. -/
def marksI (k : Nat) (n : Nat) : List Int := (List.range n).map fun i => ((k + i : Nat) : Int)
theorem marksI_len (k n : Nat) : (marksI k n).length = n := by simp [marksI]
theorem marksI_at (k n i : Nat) (h : i < n) : (marksI k n).getD ((i : Int)).toNat 0 = ((k + i : Nat) : Int) := by
  rw [getD_at _ _ i (by rw [marksI_len]; exact h)]
  simp [marksI]
theorem markIntS_ev (l : List Int) (k0 : Nat) (hl : k0 + l.length ≤ 9223372036854775807) : Ev (fun k => laws_markIntS.f k l (k0 : Int)) (((k0 + l.length : Nat) : Int), marksI k0 l.length) := by
  unfold laws_markIntS.f
  have h := ev_upto l.length (fun i k => laws_markIntS.l0 k ((marksI k0 l.length).take i ++ l.drop i) ((k0 + i : Nat) : Int) (i : Int)) (((k0 + l.length : Nat) : Int), marksI k0 l.length) ?_ ?_ 0 (by omega)
  · simpa using h
  · refine Ev.step (fun _ => rfl) (ev_neg ?_ (ev_const ?_))
    · rw [fill_length _ _ _ (by rw [marksI_len]; omega) (marksI_len _ _), marksI_len]; omega
    · rw [List.drop_eq_nil_of_le (Nat.le_refl _), List.append_nil, List.take_of_length_le (by rw [marksI_len]; omega)]
  · intro i hi h
    refine Ev.step (fun _ => rfl) (ev_pos ?_ (ev_pos (by omega) ?_))
    · rw [fill_length _ _ _ (by rw [marksI_len]; omega) (marksI_len _ _), marksI_len]; omega
    · have e := fill_set (marksI k0 l.length) l 0 i (by rw [marksI_len]; exact hi) hi
      rw [marksI_at _ _ _ hi] at e
      rw [wrap_next i l.length hi (by omega), wrap_next (k0 + i) (k0 + l.length) (by omega) (by omega), Int.toNat_natCast, e]
      exact h
theorem heldIntS_ev (n : Nat) (k0 : Nat) (hl : k0 + n ≤ 9223372036854775807) : Ev (fun k => laws_heldIntS.f k (marksI k0 n) (k0 : Int)) ((k0 + n : Nat) : Int) := by
  unfold laws_heldIntS.f
  refine ev_upto n (fun i k => laws_heldIntS.l0 k (marksI k0 n) ((k0 + i : Nat) : Int) (i : Int)) _ ?_ ?_ 0 (by omega)
  · exact Ev.step (fun _ => rfl) (ev_neg (by rw [marksI_len]; omega) (ev_some _))
  · intro i hi h
    refine Ev.step (fun _ => rfl) (ev_pos (by rw [marksI_len]; omega) (ev_pos (by omega) (ev_pos (marksI_at _ _ _ hi) ?_)))
    rw [wrap_next i n hi (by omega), wrap_next (k0 + i) (k0 + n) (by omega) (by omega)]
    exact h

end Go.Proofs.Ytkmncnkohkfkoaa.Pure
