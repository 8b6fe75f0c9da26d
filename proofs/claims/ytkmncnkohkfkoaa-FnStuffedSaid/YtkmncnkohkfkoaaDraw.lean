/- What the reference's drawing of numbers comes to: it ends, and stays in its bounds: no condition. -/
import Derived.Test.YtkmncnkohkfkoaaKit
import Derived.Test.YtkmncnkohkfkoaaPaxspecl1New
import Derived.Test.YtkmncnkohkfkoaaPaxspecl1Byte
import Derived.Test.YtkmncnkohkfkoaaPaxspecl1Below
import Derived.Test.YtkmncnkohkfkoaaPaxspecl1Once
import Derived.Test.YtkmncnkohkfkoaaPaxspecl1Size
namespace Go.Proofs.Ytkmncnkohkfkoaa.Pure
open Go.RowKit Go.Proofs.Ytkmncnkohkfkoaa.Pa Go.Proofs.Ytkmncnkohkfkoaa.Kit Go.Proofs.YtkmncnkohkfkoaaW.PrintWords Go.Proofs.YtkmncnkohkfkoaaW.PrintLast Go.Proofs.YtkmncnkohkfkoaaW.PrintMore

/-- The cursor's place. -/
def Cur (code : List Int) (i : Int) : Prop := 0 ≤ i ∧ i ≤ code.length ∧ code.length ≤ 9223372036854775807
theorem and255 (x : Int) : 0 ≤ Go.bits .and .i64 x 255 ∧ Go.bits .and .i64 x 255 ≤ 255 := by
  have h : (BitVec.ofInt 64 x &&& BitVec.ofInt 64 255).toNat ≤ 255 := by
    rw [BitVec.toNat_and]
    exact Nat.le_trans Nat.and_le_right (by decide)
  have e : Go.bits .and .i64 x 255 = IntKind.i64.wrap (((BitVec.ofInt 64 x &&& BitVec.ofInt 64 255).toNat : Nat) : Int) := rfl
  rw [e, IntKind.wrap_i64]
  omega
theorem byte_ok (code : List Int) (i h : Int) (c : Cur code i) : ∃ x i' h', spec_l1Byte.f code i h = some (x, i', h') ∧ 0 ≤ x ∧ x ≤ 255 ∧ Cur code i' := by
  obtain ⟨c0, c1, c2⟩ := c
  unfold spec_l1Byte.f
  by_cases hlt : i < (code.length : Int)
  · rw [if_pos hlt, if_pos c0]
    refine ⟨_, _, _, rfl, (and255 _).1, (and255 _).2, ?_, ?_, c2⟩ <;> (rw [wrap_in (by omega) (by omega)]; omega)
  · rw [if_neg hlt]
    exact ⟨_, _, _, rfl, (and255 _).1, (and255 _).2, c0, c1, c2⟩
theorem tmod_in (x n : Int) (h0 : 0 ≤ x) (hn : 0 < n) : 0 ≤ Int.tmod x n ∧ Int.tmod x n < n := by
  rw [Int.tmod_eq_emod_of_nonneg h0]
  exact ⟨Int.emod_nonneg _ (by omega), Int.emod_lt_of_pos _ hn⟩
theorem below_ok (code : List Int) (i h n : Int) (c : Cur code i) : ∃ x i' h', spec_l1Below.f code i h n = some (x, i', h') ∧ 0 ≤ x ∧ (0 < n → x < n) ∧ (n ≤ 0 → x = 0) ∧ Cur code i' := by
  unfold spec_l1Below.f
  by_cases h0 : n ≤ 0
  · rw [if_pos h0]
    exact ⟨0, i, h, rfl, by omega, by omega, fun _ => rfl, c⟩
  · rw [if_neg h0]
    by_cases h1 : n ≤ 256
    · rw [if_pos h1]
      obtain ⟨x, i', h', e, x0, x1, c'⟩ := byte_ok code i h c
      rw [e]; simp only [Option.bind_some]
      rw [if_neg (by omega)]
      have := tmod_in x n x0 (by omega)
      exact ⟨_, _, _, rfl, this.1, fun _ => this.2, by omega, c'⟩
    · rw [if_neg h1]
      obtain ⟨x, i1, h1', e1, x0, x1, c1⟩ := byte_ok code i h c
      obtain ⟨y, i2, h2', e2, y0, y1, c2⟩ := byte_ok code i1 h1' c1
      obtain ⟨z, i3, h3', e3, z0, z1, c3⟩ := byte_ok code i2 h2' c2
      obtain ⟨u, i4, h4', e4, u0, u1, c4⟩ := byte_ok code i3 h3' c3
      rw [e1]; simp only [Option.bind_some]
      rw [e2]; simp only [Option.bind_some]
      rw [e3]; simp only [Option.bind_some]
      rw [e4]; simp only [Option.bind_some]
      rw [if_neg (by omega)]
      rw [wrap_in (x := x * 16777216) (by omega) (by omega), wrap_in (x := y * 65536) (by omega) (by omega), wrap_in (x := z * 256) (by omega) (by omega), wrap_in (x := x * 16777216 + y * 65536) (by omega) (by omega), wrap_in (x := x * 16777216 + y * 65536 + z * 256) (by omega) (by omega), wrap_in (x := x * 16777216 + y * 65536 + z * 256 + u) (by omega) (by omega)]
      have := tmod_in (x * 16777216 + y * 65536 + z * 256 + u) n (by omega) (by omega)
      exact ⟨_, _, _, rfl, this.1, fun _ => this.2, by omega, c4⟩
theorem once_ok (code : List Int) (i h n : Int) (c : Cur code i) : ∃ b i' h', spec_l1Once.f code i h n = some (b, i', h') ∧ Cur code i' := by
  unfold spec_l1Once.f
  obtain ⟨x, i', h', e, _, _, _, c'⟩ := below_ok code i h n c
  rw [e]; simp only [Option.bind_some]
  exact ⟨_, _, _, rfl, c'⟩
theorem size_ok (l : List Int) (m : Int) (hl : l.length ≤ 9223372036854775807) : ∃ n, spec_l1Size.f l m = some n ∧ n ≤ m ∧ (2 ≤ m → 2 ≤ n) := by
  unfold spec_l1Size.f
  rw [wrap_in (x := (l.length : Int) / 20) (by omega) (by omega), wrap_in (x := 2 + (l.length : Int) / 20) (by omega) (by omega)]
  split
  · exact ⟨_, rfl, Int.le_refl _, id⟩
  · exact ⟨_, rfl, by omega, by omega⟩
theorem new_ok (l : List Int) (hl : l.length ≤ 9223372036854775807) : ∃ h, Ev (fun k => spec_l1New.f k l) (l, 0, h) := by
  unfold spec_l1New.f
  have key : ∀ d i (h : Int), i + d = l.length → ∃ h', Ev (fun k => spec_l1New.l0 k l h (i : Int)) (l, 0, h') := by
    intro d
    induction d with
    | zero => intro i h hi; exact ⟨h, Ev.step (fun _ => rfl) (ev_neg (by omega) (ev_some _))⟩
    | succ d ih =>
      intro i h hi
      by_cases h4 : (i : Int) < 4000
      · obtain ⟨h', hh⟩ := ih (i + 1) (Go.bits .and .i64 (wrap64 ((wrap64 ((wrap64 (h * 131)) + (wrap64 (rd l (i : Int))))) + 7)) 1073741823) (by omega)
        refine ⟨h', Ev.step (fun _ => rfl) (ev_pos (by omega) (ev_pos h4 (ev_pos (by omega) ?_)))⟩
        rw [wrap_next i l.length (by omega) hl]; exact hh
      · exact ⟨h, Ev.step (fun _ => rfl) (ev_pos (by omega) (ev_neg h4 (ev_some _)))⟩
  exact key l.length 0 _ (by omega)
theorem cur_new (l : List Int) (hl : l.length ≤ 9223372036854775807) : Cur l 0 := ⟨by omega, by omega, hl⟩

end Go.Proofs.Ytkmncnkohkfkoaa.Pure
