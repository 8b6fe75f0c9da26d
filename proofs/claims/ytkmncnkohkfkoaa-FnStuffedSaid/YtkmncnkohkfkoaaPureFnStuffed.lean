/- Drawn bits that are stuffed come back, and no six 1 stand in a row there: no condition. -/
import Derived.Test.YtkmncnkohkfkoaaPaxlawsFnStuffed
import Derived.Test.YtkmncnkohkfkoaaStuffing
import Derived.Test.YtkmncnkohkfkoaaDrawStuff
namespace Go.Proofs.Ytkmncnkohkfkoaa.Pure
open Go.RowKit Go.Proofs.Ytkmncnkohkfkoaa.Pa Go.Proofs.Ytkmncnkohkfkoaa.Kit Go.Proofs.YtkmncnkohkfkoaaW.PrintWords Go.Proofs.YtkmncnkohkfkoaaW.PrintLast Go.Proofs.YtkmncnkohkfkoaaW.PrintMore

theorem sameInts_ev (l : List Int) (hl : l.length ≤ 9223372036854775807) : Ev (fun k => laws_sameInts.f k l l) true := by
  unfold laws_sameInts.f
  refine ev_pos rfl ?_
  refine ev_upto l.length (fun i k => laws_sameInts.l0 k l l (i : Int)) true ?_ ?_ 0 (by omega)
  · exact Ev.step (fun _ => rfl) (ev_neg (by omega) (ev_some _))
  · intro i hi h
    refine Ev.step (fun _ => rfl) (ev_pos (by omega) (ev_pos (by omega) (ev_pos (by omega) (ev_pos rfl ?_))))
    rw [wrap_next i l.length hi hl]; exact h

def six : List Int → Int → Prop
  | [], _ => True
  | b :: t, o => b * (o + 1) ≤ 5 ∧ six t (b * (o + 1))
theorem two (b : Int) (h : bit b = true) : b = 0 ∨ b = 1 := by simp [bit] at h; omega
theorem stuff_six (l : List Int) (hb : ∀ x ∈ l, bit x = true) : ∀ n, 0 ≤ n → n ≤ 4 → six (stuffGo l n) n ∧ (∀ x ∈ stuffGo l n, bit x = true) ∧ unstuffGo (stuffGo l n) n = some l := by
  induction l with
  | nil => intro n _ _; exact ⟨trivial, by simp [stuffGo], rfl⟩
  | cons b t ih =>
    intro n h0 h4
    have iht := ih (fun x hx => hb x (List.mem_cons_of_mem _ hx))
    have hbb := hb b List.mem_cons_self
    rw [stuffGo]
    by_cases h5 : (n + 1) * b = 5
    · rw [if_pos h5]
      obtain ⟨s1, s2, s3⟩ := iht 0 (by omega) (by omega)
      refine ⟨?_, ?_, ?_⟩
      · refine ⟨by rw [Int.mul_comm]; omega, by simp, ?_⟩
        simpa using s1
      · intro x hx
        rcases List.mem_cons.1 hx with rfl | hx
        · exact hbb
        rcases List.mem_cons.1 hx with rfl | hx
        · rfl
        exact s2 x hx
      · rw [unstuffGo, if_pos h5, if_pos rfl, s3]; rfl
    · rw [if_neg h5]
      have hr : 0 ≤ (n + 1) * b ∧ (n + 1) * b ≤ 4 := by
        rcases two b hbb with rfl | rfl
        · omega
        · omega
      obtain ⟨s1, s2, s3⟩ := iht _ hr.1 hr.2
      refine ⟨?_, ?_, ?_⟩
      · refine ⟨by rw [Int.mul_comm]; omega, ?_⟩
        rw [Int.mul_comm b]; exact s1
      · intro x hx
        rcases List.mem_cons.1 hx with rfl | hx
        · exact hbb
        exact s2 x hx
      · generalize hg : stuffGo t ((n + 1) * b) = r at *
        cases r with
        | nil => rw [unstuffGo, if_neg h5]; rw [unstuffGo] at s3; rw [← Option.some.inj s3]
        | cons c r => rw [unstuffGo, if_neg h5, s3]; rfl

theorem FnStuffed : laws_FnStuffed.Pure := by
  intro l hm _ _
  unfold maxLen at hm
  refine Ev.rounds ?_
  unfold laws_FnStuffed.f
  refine ev_bindc (a := decide ((l.length : Int) > 1048576)) rfl ?_
  by_cases hb : decide ((l.length : Int) > 1048576) = true
  · exact ev_pos hb (ev_some _)
  obtain ⟨b, hd, hl⟩ := drawStuff_ok l hm
  refine ev_neg hb (Ev.bind hd (Ev.bind (implStuff_ev b (by omega)) (Ev.bind (specStuff_ev b (by omega)) (ev_neg (by simp) ?_))))
  have h5 : stuff [1, 1, 1, 1, 1] = ([1, 1, 1, 1, 1, 0], true) := by decide
  refine Ev.bind (ev_eq (implStuff_ev [1, 1, 1, 1, 1] (by decide)) h5) (ev_pos rfl (ev_pos rfl ?_))
  by_cases hok : bitsB b 2000 = true
  · have hs : stuff b = (stuffGo b 0, true) := by simp [stuff, hok]
    obtain ⟨ha, hn⟩ := all_bits b 2000 hok
    obtain ⟨s1, s2, s3⟩ := stuff_six b ha 0 (by omega) (by omega)
    have hlen := stuffGo_len b 0
    refine Ev.step (fun _ => rfl) (ev_neg (by rw [hs]; simp) ?_)
    rw [hs]
    have hu : unstuff (stuffGo b 0) = (b, true) := by
      have : bitsB (stuffGo b 0) 4000 = true := by
        unfold bitsB
        rw [Bool.and_eq_true]
        exact ⟨List.all_eq_true.2 s2, by simp; omega⟩
      simp [unstuff, this, s3]
    generalize stuffGo b 0 = s at *
    have key : ∀ d i o, i + d = s.length → 0 ≤ o → o ≤ 5 → six (s.drop i) o → Ev (fun k => laws_FnStuffed.l0 k b s o (i : Int)) true := by
      intro d
      induction d with
      | zero =>
        intro i o hi _ _ _
        refine Ev.step (fun _ => rfl) (ev_neg (by omega) (Ev.bind (ev_eq (implUnstuff_ev s (by omega)) hu) (ev_pos rfl (Ev.bind (sameInts_ev b (by omega)) (ev_some _)))))
      | succ d ih =>
        intro i o hi o0 o5 h6
        rw [drop_rd s i (by omega)] at h6
        obtain ⟨g1, g2⟩ := h6
        have hbb := two _ (s2 _ (rd_mem s i (by omega)))
        have hw : wrap64 (rd s (i : Int) * wrap64 (o + 1)) = rd s (i : Int) * (o + 1) := by
          rw [wrap_in (x := o + 1) (by omega) (by omega)]
          rcases hbb with e | e <;> rw [e]
          · simp [wrap64]
          · rw [wrap_in] <;> omega
        refine Ev.step (fun _ => rfl) (ev_pos (by omega) (ev_pos (by omega) (ev_neg (by rw [hw]; omega) ?_)))
        rw [hw, wrap_next i s.length (by omega) (by omega)]
        refine ih (i + 1) _ (by omega) ?_ g1 g2
        rcases hbb with e | e <;> rw [e] <;> omega
    exact key s.length 0 0 (by omega) (by omega) (by omega) s1
  · have hs : stuff b = ([], false) := by simp [stuff, hok]
    exact Ev.step (fun _ => rfl) (ev_pos (by rw [hs]; simp) (ev_pos rfl (ev_const rfl)))

end Go.Proofs.Ytkmncnkohkfkoaa.Pure
