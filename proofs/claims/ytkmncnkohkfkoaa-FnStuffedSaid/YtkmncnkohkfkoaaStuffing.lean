/- What Stuff and Unstuff of the program and of the reference come to: no condition. -/
import Derived.Test.YtkmncnkohkfkoaaKit
import Derived.Test.YtkmncnkohkfkoaaPaximplStuff
import Derived.Test.YtkmncnkohkfkoaaPaximplUnstuff
import Derived.Test.YtkmncnkohkfkoaaPaxspecStuff
import Derived.Test.YtkmncnkohkfkoaaPaxspecUnstuff
namespace Go.Proofs.Ytkmncnkohkfkoaa.Pure
open Go.RowKit Go.Proofs.Ytkmncnkohkfkoaa.Pa Go.Proofs.Ytkmncnkohkfkoaa.Kit Go.Proofs.YtkmncnkohkfkoaaW.PrintWords Go.Proofs.YtkmncnkohkfkoaaW.PrintLast Go.Proofs.YtkmncnkohkfkoaaW.PrintMore

def bit (x : Int) : Bool := decide (x = 0) || decide (x = 1)
def bitsB (l : List Int) (most : Int) : Bool := l.all bit && decide ((l.length : Int) ≤ most)
theorem bit_in (x : Int) (h : bit x = true) : 0 ≤ x ∧ x ≤ 1 := by
  simp [bit] at h; omega
theorem in_bit (x : Int) : spec_l1In.f x 0 1 = some (bit x) := by
  unfold spec_l1In.f bit
  by_cases h0 : x ≥ 0
  · rw [if_pos h0]
    congr 1
    by_cases h1 : x ≤ 1
    · have : x = 0 ∨ x = 1 := by omega
      rcases this with rfl | rfl <;> rfl
    · have a : ¬ x = 0 := by omega
      have b : ¬ x = 1 := by omega
      simp [h1, a, b]
  · rw [if_neg h0]
    congr 1
    have a : ¬ x = 0 := by omega
    have b : ¬ x = 1 := by omega
    simp [a, b]
theorem l1Bits_ev (l : List Int) (most : Int) (hl : l.length ≤ 9223372036854775807) : Ev (fun k => spec_l1Bits.f k l most) (bitsB l most) := by
  unfold spec_l1Bits.f
  have key : ∀ d i, i + d = l.length → Ev (fun k => spec_l1Bits.l0 k l most (i : Int)) ((l.drop i).all bit && decide ((l.length : Int) ≤ most)) := by
    intro d
    induction d with
    | zero =>
      intro i h
      refine Ev.step (fun _ => rfl) (ev_neg (by omega) (ev_const ?_))
      rw [List.drop_eq_nil_of_le (by omega)]; simp
    | succ d ih =>
      intro i h
      refine Ev.step (fun _ => rfl) (ev_pos (by omega) (ev_pos (by omega) (ev_bindc (in_bit _) ?_)))
      have e := drop_rd l i (by omega)
      rw [e, List.all_cons]
      by_cases hb : bit (rd l (i : Int)) = true
      · refine ev_pos hb ?_
        rw [hb, Bool.true_and, wrap_next i l.length (by omega) hl]
        exact ih (i + 1) (by omega)
      · refine ev_neg hb (ev_const ?_)
        rw [Bool.not_eq_true] at hb
        rw [hb]; rfl
  have := key l.length 0 (by omega)
  simpa [bitsB] using this
theorem bitsOk_ev (l : List Int) (most : Int) (hl : l.length ≤ 9223372036854775807) : Ev (fun k => impl_bitsOk.f k l most) (bitsB l most) := by
  unfold impl_bitsOk.f
  have key : ∀ d i, i + d = l.length → Ev (fun k => impl_bitsOk.l0 k l most l (l.length : Int) (i : Int)) ((l.drop i).all bit && decide ((l.length : Int) ≤ most)) := by
    intro d
    induction d with
    | zero =>
      intro i h
      refine Ev.step (fun _ => rfl) (ev_neg (by omega) (ev_const ?_))
      rw [List.drop_eq_nil_of_le (by omega)]; simp
    | succ d ih =>
      intro i h
      refine Ev.step (fun _ => rfl) (ev_pos (by omega) (ev_pos (by omega) (ev_pos (by omega) ?_)))
      have e := drop_rd l i (by omega)
      have hw := wrap_next i l.length (by omega) hl
      have hn := ih (i + 1) (by omega)
      rw [e, List.all_cons, hw]
      by_cases h0 : rd l (i : Int) = 0
      · refine ev_pos h0 ?_
        have : bit (rd l (i : Int)) = true := by simp [bit, h0]
        rw [this, Bool.true_and]; exact hn
      · refine ev_neg h0 ?_
        by_cases h1 : rd l (i : Int) = 1
        · refine ev_pos h1 ?_
          have : bit (rd l (i : Int)) = true := by simp [bit, h1]
          rw [this, Bool.true_and]; exact hn
        · refine ev_neg h1 (ev_const ?_)
          have : bit (rd l (i : Int)) = false := by simp [bit, h0, h1]
          rw [this]; rfl
  have := key l.length 0 (by omega)
  simpa [bitsB] using this

/-- A 0 behind each five 1 in a row; n: how many stand in a row by now. -/
def stuffGo : List Int → Int → List Int
  | [], _ => []
  | b :: t, n => if (n + 1) * b = 5 then b :: 0 :: stuffGo t 0 else b :: stuffGo t ((n + 1) * b)
def stuff (l : List Int) : List Int × Bool := if bitsB l 2000 then (stuffGo l 0, true) else ([], false)
/-- Taken out again. -/
def unstuffGo : List Int → Int → Option (List Int)
  | [], _ => some []
  | [b], n => if (n + 1) * b = 5 then none else some [b]
  | b :: c :: t, n => if (n + 1) * b = 5 then (if c = 0 then (unstuffGo t 0).map (b :: ·) else none) else (unstuffGo (c :: t) ((n + 1) * b)).map (b :: ·)
def unstuff (l : List Int) : List Int × Bool := if bitsB l 4000 then (match unstuffGo l 0 with | some x => (x, true) | none => ([], false)) else ([], false)

theorem prod_in (b n : Int) (hb : bit b = true) (h0 : 0 ≤ n) (h4 : n ≤ 4) : wrap64 (b * wrap64 (n + 1)) = (n + 1) * b ∧ wrap64 (wrap64 (n + 1) * b) = (n + 1) * b ∧ 0 ≤ (n + 1) * b ∧ (n + 1) * b ≤ 5 := by
  have hb' := bit_in b hb
  rw [wrap_in (x := n + 1) (by omega) (by omega)]
  have : b = 0 ∨ b = 1 := by omega
  rcases this with rfl | rfl
  · simp [wrap64]
  · simp; rw [wrap_in (by omega) (by omega)]; omega

theorem all_bits (l : List Int) (most : Int) (h : bitsB l most = true) : (∀ x ∈ l, bit x = true) ∧ (l.length : Int) ≤ most := by
  unfold bitsB at h
  rw [Bool.and_eq_true] at h
  exact ⟨List.all_eq_true.1 h.1, of_decide_eq_true h.2⟩

theorem specStuff_ev (l : List Int) (hl : l.length ≤ 9223372036854775807) : Ev (fun k => spec_Stuff.f k l) (stuff l) := by
  unfold spec_Stuff.f
  refine ev_bindc rfl (Ev.bind (l1Bits_ev l 2000 hl) ?_)
  by_cases h : bitsB l 2000 = true
  · refine ev_pos h ?_
    obtain ⟨hb, hm⟩ := all_bits l 2000 h
    have key : ∀ d i out n, i + d = l.length → 0 ≤ n → n ≤ 4 → out.length ≤ 2 * i → Ev (fun k => spec_Stuff.l0 k l out n (i : Int)) (out ++ stuffGo (l.drop i) n, true) := by
      intro d
      induction d with
      | zero =>
        intro i out n h _ _ _
        refine Ev.step (fun _ => rfl) (ev_neg (by omega) (ev_const ?_))
        rw [List.drop_eq_nil_of_le (by omega)]; simp [stuffGo]
      | succ d ih =>
        intro i out n h h0 h4 ho
        obtain ⟨p1, p2, p3, p4⟩ := prod_in (rd l (i : Int)) n (hb _ (rd_mem l i (by omega))) h0 h4
        refine Ev.step (fun _ => rfl) (ev_pos (by omega) (ev_pos (by omega) (ev_pos (by omega) (ev_bindc rfl ?_))))
        rw [p1, drop_rd l i (by omega), wrap_next i l.length (by omega) hl, stuffGo]
        by_cases h5 : (n + 1) * rd l (i : Int) = 5
        · rw [if_pos h5]
          refine ev_pos h5 (ev_pos (by simp; omega) ?_)
          refine ev_eq (ih (i + 1) _ 0 (by omega) (by omega) (by omega) (by simp; omega)) ?_
          simp
        · rw [if_neg h5]
          refine ev_neg h5 ?_
          refine ev_eq (ih (i + 1) _ _ (by omega) p3 (by omega) (by simp; omega)) ?_
          simp
    have := key l.length 0 [] 0 (by omega) (by omega) (by omega) (by simp)
    simpa [stuff, h] using this
  · refine ev_neg h (ev_const ?_)
    simp [stuff, h]
theorem implStuff_ev (l : List Int) (hl : l.length ≤ 9223372036854775807) : Ev (fun k => impl_Stuff.f k l) (stuff l) := by
  unfold impl_Stuff.f
  refine Ev.bind (bitsOk_ev l 2000 hl) ?_
  by_cases h : bitsB l 2000 = true
  · refine ev_pos h ?_
    obtain ⟨hb, hm⟩ := all_bits l 2000 h
    have key : ∀ d i out n, i + d = l.length → 0 ≤ n → n ≤ 4 → out.length ≤ 2 * i → Ev (fun k => impl_Stuff.l0 k out n l (l.length : Int) (i : Int)) (out ++ stuffGo (l.drop i) n, true) := by
      intro d
      induction d with
      | zero =>
        intro i out n h _ _ _
        refine Ev.step (fun _ => rfl) (ev_neg (by omega) (ev_const ?_))
        rw [List.drop_eq_nil_of_le (by omega)]; simp [stuffGo]
      | succ d ih =>
        intro i out n h h0 h4 ho
        obtain ⟨p1, p2, p3, p4⟩ := prod_in (rd l (i : Int)) n (hb _ (rd_mem l i (by omega))) h0 h4
        refine Ev.step (fun _ => rfl) (ev_pos (by omega) (ev_pos (by omega) (ev_pos (by omega) (ev_pos (by omega) (ev_bindc rfl ?_)))))
        rw [p2, drop_rd l i (by omega), wrap_next i l.length (by omega) hl, stuffGo]
        by_cases h5 : (n + 1) * rd l (i : Int) = 5
        · rw [if_pos h5]
          refine ev_pos h5 (ev_pos (by simp; omega) ?_)
          refine ev_eq (ih (i + 1) _ 0 (by omega) (by omega) (by omega) (by simp; omega)) ?_
          simp
        · rw [if_neg h5]
          refine ev_neg h5 ?_
          refine ev_eq (ih (i + 1) _ _ (by omega) p3 (by omega) (by simp; omega)) ?_
          simp
    have := key l.length 0 [] 0 (by omega) (by omega) (by omega) (by simp)
    simpa [stuff, h] using this
  · refine ev_neg h (ev_const ?_)
    simp [stuff, h]

theorem specUnstuff_ev (l : List Int) (hl : l.length ≤ 9223372036854775807) : Ev (fun k => spec_Unstuff.f k l) (unstuff l) := by
  unfold spec_Unstuff.f
  refine ev_bindc rfl (Ev.bind (l1Bits_ev l 4000 hl) ?_)
  by_cases h : bitsB l 4000 = true
  · refine ev_pos h ?_
    obtain ⟨hb, hm⟩ := all_bits l 4000 h
    have key : ∀ m d i out n, d ≤ m → i + d = l.length → 0 ≤ n → n ≤ 4 → out.length ≤ i → Ev (fun k => spec_Unstuff.l0 k l out n (i : Int)) (match unstuffGo (l.drop i) n with | some x => (out ++ x, true) | none => ([], false)) := by
      intro m
      induction m with
      | zero =>
        intro d i out n hd h _ _ _
        refine Ev.step (fun _ => rfl) (ev_neg (by omega) (ev_const ?_))
        rw [List.drop_eq_nil_of_le (by omega)]; simp [unstuffGo]
      | succ m ih =>
        intro d i out n hd h h0 h4 ho
        rcases Nat.eq_zero_or_pos d with hz | hd0
        · refine Ev.step (fun _ => rfl) (ev_neg (by omega) (ev_const ?_))
          rw [List.drop_eq_nil_of_le (by omega)]; simp [unstuffGo]
        obtain ⟨p1, p2, p3, p4⟩ := prod_in (rd l (i : Int)) n (hb _ (rd_mem l i (by omega))) h0 h4
        refine Ev.step (fun _ => rfl) (ev_pos (by omega) (ev_pos (by omega) (ev_pos (by omega) (ev_bindc rfl ?_))))
        rw [p1, drop_rd l i (by omega), wrap_next i l.length (by omega) hl]
        by_cases h5 : (n + 1) * rd l (i : Int) = 5
        · refine ev_pos h5 ?_
          by_cases he : i + 1 = l.length
          · refine ev_pos (by omega) (ev_const ?_)
            rw [List.drop_eq_nil_of_le (by omega)]; simp [unstuffGo, h5]
          · refine ev_neg (by omega) (ev_pos (by omega) (ev_pos (by omega) ?_))
            rw [drop_rd l (i + 1) (by omega), unstuffGo, if_pos h5]
            have hc := bit_in _ (hb _ (rd_mem l (i + 1) (by omega)))
            by_cases h1 : rd l ((i + 1 : Nat) : Int) = 1
            · refine ev_pos h1 (ev_const ?_)
              rw [h1]; rfl
            · refine ev_neg h1 ?_
              rw [if_pos (show rd l ((i + 1 : Nat) : Int) = 0 by omega), wrap_next (i + 1) l.length (by omega) hl]
              refine ev_eq (ih (d - 2) (i + 1 + 1) _ 0 (by omega) (by omega) (by omega) (by omega) (by simp; omega)) ?_
              cases unstuffGo (l.drop (i + 1 + 1)) 0 <;> simp
        · refine ev_neg h5 ?_
          refine ev_eq (ih (d - 1) (i + 1) _ _ (by omega) (by omega) p3 (by omega) (by simp; omega)) ?_
          by_cases he : i + 1 = l.length
          · rw [List.drop_eq_nil_of_le (by omega)]; simp [unstuffGo, h5]
          · rw [drop_rd l (i + 1) (by omega), unstuffGo, if_neg h5]
            cases unstuffGo (rd l ((i + 1 : Nat) : Int) :: l.drop (i + 1 + 1)) ((n + 1) * rd l (i : Int)) <;> simp
    have := key l.length l.length 0 [] 0 (Nat.le_refl _) (by omega) (by omega) (by omega) (by simp)
    simpa [unstuff, h] using this
  · refine ev_neg h (ev_const ?_)
    simp [unstuff, h]
theorem implUnstuff_ev (l : List Int) (hl : l.length ≤ 9223372036854775807) : Ev (fun k => impl_Unstuff.f k l) (unstuff l) := by
  unfold impl_Unstuff.f
  refine Ev.bind (bitsOk_ev l 4000 hl) ?_
  by_cases h : bitsB l 4000 = true
  · refine ev_pos h ?_
    obtain ⟨hb, hm⟩ := all_bits l 4000 h
    have key : ∀ m d i out n, d ≤ m → i + d = l.length → 0 ≤ n → n ≤ 4 → out.length ≤ i → Ev (fun k => impl_Unstuff.l0 k l out n (i : Int)) (match unstuffGo (l.drop i) n with | some x => (out ++ x, true) | none => ([], false)) := by
      intro m
      induction m with
      | zero =>
        intro d i out n hd h _ _ _
        refine Ev.step (fun _ => rfl) (ev_neg (by omega) (ev_const ?_))
        rw [List.drop_eq_nil_of_le (by omega)]; simp [unstuffGo]
      | succ m ih =>
        intro d i out n hd h h0 h4 ho
        rcases Nat.eq_zero_or_pos d with hz | hd0
        · refine Ev.step (fun _ => rfl) (ev_neg (by omega) (ev_const ?_))
          rw [List.drop_eq_nil_of_le (by omega)]; simp [unstuffGo]
        obtain ⟨p1, p2, p3, p4⟩ := prod_in (rd l (i : Int)) n (hb _ (rd_mem l i (by omega))) h0 h4
        refine Ev.step (fun _ => rfl) (ev_pos (by omega) (ev_pos (by omega) (ev_pos (by omega) (ev_bindc rfl ?_))))
        rw [p2, drop_rd l i (by omega), wrap_next i l.length (by omega) hl]
        by_cases h5 : (n + 1) * rd l (i : Int) = 5
        · refine ev_pos h5 ?_
          by_cases he : i + 1 = l.length
          · refine ev_pos (by omega) (ev_const ?_)
            rw [List.drop_eq_nil_of_le (by omega)]; simp [unstuffGo, h5]
          · refine ev_neg (by omega) (ev_pos (by omega) (ev_pos (by omega) ?_))
            rw [drop_rd l (i + 1) (by omega), unstuffGo, if_pos h5]
            by_cases h1 : rd l ((i + 1 : Nat) : Int) = 0
            · refine ev_pos h1 ?_
              rw [if_pos h1, wrap_next (i + 1) l.length (by omega) hl]
              refine ev_eq (ih (d - 2) (i + 1 + 1) _ 0 (by omega) (by omega) (by omega) (by omega) (by simp; omega)) ?_
              cases unstuffGo (l.drop (i + 1 + 1)) 0 <;> simp
            · refine ev_neg h1 (ev_const ?_)
              rw [if_neg h1]
        · refine ev_neg h5 ?_
          refine ev_eq (ih (d - 1) (i + 1) _ _ (by omega) (by omega) p3 (by omega) (by simp; omega)) ?_
          by_cases he : i + 1 = l.length
          · rw [List.drop_eq_nil_of_le (by omega)]; simp [unstuffGo, h5]
          · rw [drop_rd l (i + 1) (by omega), unstuffGo, if_neg h5]
            cases unstuffGo (rd l ((i + 1 : Nat) : Int) :: l.drop (i + 1 + 1)) ((n + 1) * rd l (i : Int)) <;> simp
    have := key l.length l.length 0 [] 0 (Nat.le_refl _) (by omega) (by omega) (by omega) (by simp)
    simpa [unstuff, h] using this
  · refine ev_neg h (ev_const ?_)
    simp [unstuff, h]

theorem stuffGo_len (l : List Int) : ∀ n, (stuffGo l n).length ≤ 2 * l.length := by
  induction l with
  | nil => intro n; simp [stuffGo]
  | cons b t ih =>
    intro n
    rw [stuffGo]
    split
    · have := ih 0; simp; omega
    · have := ih ((n + 1) * b); simp; omega
theorem stuff_len (l : List Int) : (stuff l).1.length ≤ 4000 := by
  unfold stuff
  split
  · rename_i h
    have := stuffGo_len l 0
    have := (all_bits l 2000 h).2
    simp; omega
  · simp
theorem unstuffGo_len (m : Nat) : ∀ l n x, l.length ≤ m → unstuffGo l n = some x → x.length ≤ l.length := by
  induction m with
  | zero =>
    intro l n x hl h
    obtain rfl : l = [] := List.eq_nil_of_length_eq_zero (by omega)
    simp [unstuffGo] at h; subst h; simp
  | succ m ih =>
    intro l n x hl h
    match l with
    | [] => simp [unstuffGo] at h; subst h; simp
    | [b] =>
      rw [unstuffGo] at h
      split at h
      · cases h
      · simp at h; subst h; simp
    | b :: c :: t =>
      rw [unstuffGo] at h
      simp at hl
      split at h
      · split at h
        · simp at h
          obtain ⟨y, hy, rfl⟩ := h
          have := ih t 0 y (by omega) hy
          simp; omega
        · cases h
      · simp at h
        obtain ⟨y, hy, rfl⟩ := h
        have := ih (c :: t) _ y (by simp; omega) hy
        simp at this ⊢; omega
theorem unstuff_len (l : List Int) : (unstuff l).1.length ≤ 4000 := by
  unfold unstuff
  split
  · rename_i h
    have hm := (all_bits l 4000 h).2
    split
    · rename_i x hx
      have := unstuffGo_len l.length l 0 x (Nat.le_refl _) hx
      simp; omega
    · simp
  · simp

end Go.Proofs.Ytkmncnkohkfkoaa.Pure
