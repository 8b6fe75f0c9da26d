/- Small laws on rounds, lists and whole numbers that the pure statements of this seat use: no condition. -/
import Derived.Test.YtdpiolhmkapnnaaWWords
namespace Go.Proofs.Ytdpiolhmkapnnaa.Kit
open Go.RowKit Go.Proofs.YtdpiolhmkapnnaaW.PrintWords

theorem ev_pos {α : Type} {c : Prop} [Decidable c] {f g : Nat → Option α} {r : α} (h : c) (k : Ev f r) : Ev (fun n => if c then f n else g n) r := by
  simp only [if_pos h]; exact k
theorem ev_neg {α : Type} {c : Prop} [Decidable c] {f g : Nat → Option α} {r : α} (h : ¬ c) (k : Ev g r) : Ev (fun n => if c then f n else g n) r := by
  simp only [if_neg h]; exact k
theorem ev_some {α : Type} (r : α) : Ev (fun _ => some r) r := Ev.now r
theorem ev_eq {α : Type} {g : Nat → Option α} {r r' : α} (h : Ev g r) (e : r = r') : Ev g r' := e ▸ h
theorem ev_const {α : Type} {o : Option α} {r : α} (h : o = some r) : Ev (fun _ => o) r := by subst h; exact Ev.now r
theorem ev_bindc {α β : Type} {o : Option α} {f : Nat → α → Option β} {a : α} {r : β} (h : o = some a) (k : Ev (fun n => f n a) r) : Ev (fun n => o.bind (f n)) r := by
  subst h; exact k
theorem ev_same {α : Type} {g f : Nat → Option α} {r : α} (e : g = f) (k : Ev f r) : Ev g r := e ▸ k
/-- Two answers of one thing are one. -/
theorem ev_uniq {α : Type} {g : Nat → Option α} {r q : α} (h : Ev g r) (k : Ev g q) : r = q := by
  obtain ⟨K, h⟩ := h
  obtain ⟨L, k⟩ := k
  have a := h (max K L) (by omega)
  rw [k (max K L) (by omega)] at a
  exact (Option.some.inj a).symm
theorem ev_upto {α : Type} (n : Nat) (G : Nat → Nat → Option α) (r : α) (hend : Ev (G n) r) (hstep : ∀ i, i < n → Ev (G (i + 1)) r → Ev (G i) r) : ∀ i, i ≤ n → Ev (G i) r := by
  have key : ∀ d i, i + d = n → Ev (G i) r := by
    intro d
    induction d with
    | zero => intro i h; obtain rfl : i = n := by omega
              exact hend
    | succ d ih => intro i h; exact hstep i (by omega) (ih (i + 1) (by omega))
  intro i hi
  exact key (n - i) i (by omega)

theorem wrap_in {x : Int} (h : -9223372036854775808 ≤ x) (h' : x ≤ 9223372036854775807) : wrap64 x = x := by unfold wrap64; omega
theorem wrap_range (x : Int) : -9223372036854775808 ≤ wrap64 x ∧ wrap64 x ≤ 9223372036854775807 := by unfold wrap64; omega
theorem wrap_next (i n : Nat) (h : i < n) (hn : n ≤ 9223372036854775807) : wrap64 ((i : Int) + 1) = ((i + 1 : Nat) : Int) := by unfold wrap64; omega

theorem getD_at {α : Type} (xs : List α) (d : α) (i : Nat) (h : i < xs.length) : xs.getD ((i : Int)).toNat d = xs[i] := by
  simp [List.getD_eq_getElem?_getD, List.getElem?_eq_getElem h]
theorem drop_at {α : Type} (xs : List α) (d : α) (i : Nat) (h : i < xs.length) : xs.drop i = xs.getD ((i : Int)).toNat d :: xs.drop (i + 1) := by
  rw [getD_at xs d i h]; exact List.drop_eq_getElem_cons h
theorem take_at {α : Type} (xs : List α) (d : α) (i : Nat) (h : i < xs.length) : xs.take (i + 1) = xs.take i ++ [xs.getD ((i : Int)).toNat d] := by
  rw [getD_at xs d i h]; exact List.take_succ_eq_append_getElem h
theorem rd_at (xs : List Int) (i : Nat) (h : i < xs.length) : rd xs (i : Int) = xs[i] := getD_at xs 0 i h
theorem rd_mem (xs : List Int) (i : Nat) (h : i < xs.length) : rd xs (i : Int) ∈ xs := by rw [rd_at xs i h]; exact List.getElem_mem h
theorem drop_rd (xs : List Int) (i : Nat) (h : i < xs.length) : xs.drop i = rd xs (i : Int) :: xs.drop (i + 1) := drop_at xs 0 i h

/-- A list that is filled from the front: 'ys' ahead of i, 'xs' behind. -/
theorem fill_set {α : Type} (ys zs : List α) (d : α) (i : Nat) (h : i < ys.length) (hz : i < zs.length) : (ys.take i ++ zs.drop i).set i (ys.getD ((i : Int)).toNat d) = ys.take (i + 1) ++ zs.drop (i + 1) := by
  rw [take_at ys d i h, List.drop_eq_getElem_cons hz]
  have hl : (ys.take i).length = i := by rw [List.length_take]; omega
  rw [List.set_append_right _ _ (by omega), hl, Nat.sub_self, List.set_cons_zero, List.append_assoc]
  rfl
theorem fill_length {α : Type} (ys zs : List α) (i : Nat) (h : i ≤ ys.length) (e : ys.length = zs.length) : (ys.take i ++ zs.drop i).length = ys.length := by
  rw [List.length_append, List.length_take, List.length_drop]; omega
theorem all_drop (xs : List Int) (P : Int → Prop) (h : ∀ x ∈ xs, P x) (i : Nat) (hi : i < xs.length) : P (rd xs (i : Int)) := h _ (rd_mem xs i hi)

end Go.Proofs.Ytdpiolhmkapnnaa.Kit
