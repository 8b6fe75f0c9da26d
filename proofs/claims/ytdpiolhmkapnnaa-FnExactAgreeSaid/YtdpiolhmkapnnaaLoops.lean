/- Loops over slices that laws of this seat use, said once: no condition. -/
import Derived.Test.YtdpiolhmkapnnaaKit
namespace Go.Proofs.Ytdpiolhmkapnnaa.Kit
open Go.RowKit Go.Proofs.YtdpiolhmkapnnaaW.PrintWords

/-- A loop that fills a new slice from another, element by element. -/
theorem map_loop {A B : Type} (G : List B → Int → Nat → Option (List B)) (zA : A) (zB : B) (f : A → B) (l : List A) (hend : ∀ out : List B, out.length = l.length → Ev (G out (l.length : Int)) out)
    (hstep : ∀ (i : Nat) (out : List B), i < l.length → out.length = l.length → Ev (G (out.set i (f (l.getD i zA))) ((i + 1 : Nat) : Int)) (l.map f) → Ev (G out (i : Int)) (l.map f)) : Ev (G (List.replicate l.length zB) 0) (l.map f) := by
  have key : ∀ i out, i ≤ l.length → out.length = l.length → out.take i = (l.map f).take i → Ev (G out (i : Int)) (l.map f) := by
    have h : ∀ d i out, i + d = l.length → out.length = l.length → out.take i = (l.map f).take i → Ev (G out (i : Int)) (l.map f) := by
      intro d
      induction d with
      | zero =>
        intro i out hi ho ht
        obtain rfl : i = l.length := by omega
        rw [List.take_of_length_le (by omega), List.take_of_length_le (by rw [List.length_map]; exact Nat.le_refl _)] at ht
        subst ht
        exact hend _ ho
      | succ d ih =>
        intro i out hi ho ht
        refine hstep i out (by omega) ho (ih (i + 1) _ (by omega) (by rw [List.length_set]; exact ho) ?_)
        have hil : i < l.length := by omega
        have hio : i < out.length := by omega
        rw [List.take_succ_eq_append_getElem (by rw [List.length_set]; exact hio), List.take_succ_eq_append_getElem (by rw [List.length_map]; exact hil), List.take_set_of_le (Nat.le_refl _), ht]
        simp [List.getD_eq_getElem?_getD, List.getElem?_eq_getElem hil]
    intro i out hi; exact h (l.length - i) i out (by omega)
  have := key 0 (List.replicate l.length zB) (by omega) (by simp) (by simp)
  simpa using this
/-- A loop that looks at each element, and stops at the first that is not right. -/
theorem all_loop {A : Type} (G : Int → Nat → Option Bool) (z : A) (P : A → Bool) (l : List A) (b : Bool) (hend : Ev (G (l.length : Int)) b)
    (hyes : ∀ i : Nat, i < l.length → P (l.getD i z) = true → ∀ r, Ev (G ((i + 1 : Nat) : Int)) r → Ev (G (i : Int)) r)
    (hno : ∀ i : Nat, i < l.length → P (l.getD i z) = false → Ev (G (i : Int)) false) : Ev (G 0) (l.all P && b) := by
  have h : ∀ d i, i + d = l.length → Ev (G (i : Int)) ((l.drop i).all P && b) := by
    intro d
    induction d with
    | zero =>
      intro i hi
      obtain rfl : i = l.length := by omega
      rw [List.drop_eq_nil_of_le (Nat.le_refl _)]
      simpa using hend
    | succ d ih =>
      intro i hi
      have hil : i < l.length := by omega
      have e := drop_at l z i hil
      rw [Int.toNat_natCast] at e
      rw [e, List.all_cons]
      cases hp : P (l.getD i z) with
      | true => rw [Bool.true_and]; exact hyes i hil hp _ (ih (i + 1) (by omega))
      | false => rw [Bool.false_and, Bool.false_and]; exact hno i hil hp
  simpa using h l.length 0 (by omega)

end Go.Proofs.Ytdpiolhmkapnnaa.Kit
