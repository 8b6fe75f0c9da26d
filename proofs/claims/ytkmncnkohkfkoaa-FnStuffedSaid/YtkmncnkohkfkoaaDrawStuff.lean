/- What DrawStuff comes to: it ends: no condition. -/
import Derived.Test.YtkmncnkohkfkoaaDrawInt
import Derived.Test.YtkmncnkohkfkoaaPaxspecl1DrawBits
import Derived.Test.YtkmncnkohkfkoaaPaxspecDrawStuff
namespace Go.Proofs.Ytkmncnkohkfkoaa.Pure
open Go.RowKit Go.Proofs.Ytkmncnkohkfkoaa.Pa Go.Proofs.Ytkmncnkohkfkoaa.Kit Go.Proofs.YtkmncnkohkfkoaaW.PrintWords Go.Proofs.YtkmncnkohkfkoaaW.PrintLast Go.Proofs.YtkmncnkohkfkoaaW.PrintMore
theorem drawBits_ok (code : List Int) (i h n : Int) (hn : n ≤ 1000000) (c : Cur code i) : ∃ l i' h', Ev (fun k => spec_l1DrawBits.f k code i h n) (l, i', h') ∧ l.length ≤ n.toNat ∧ Cur code i' := by
  unfold spec_l1DrawBits.f
  have key : ∀ d j out (i h : Int), d + j = n.toNat → out.length = j → Cur code i → ∃ l i' h', Ev (fun k => spec_l1DrawBits.l0 k n out (j : Int) code i h) (l, i', h') ∧ l.length ≤ n.toNat ∧ Cur code i' := by
    intro d
    induction d with
    | zero => intro j out i h hd ho c; exact ⟨out, i, h, Ev.step (fun _ => rfl) (ev_neg (by omega) (ev_some _)), by omega, c⟩
    | succ d ih =>
      intro j out i h hd ho c
      obtain ⟨b, i1, h1, e, c1⟩ := once_ok code i h 4 c
      have hw := wrap_next j n.toNat (by omega) (by omega)
      by_cases hb : b = true
      · obtain ⟨l, i', h', hh, hl, c'⟩ := ih (j + 1) (out ++ [0]) i1 h1 (by omega) (by simp [ho]) c1
        refine ⟨l, i', h', Ev.step (fun _ => rfl) (ev_pos (by omega) (ev_bindc e (ev_pos hb (ev_pos (by omega) ?_)))), hl, c'⟩
        rw [hw]; exact hh
      · obtain ⟨l, i', h', hh, hl, c'⟩ := ih (j + 1) (out ++ [1]) i1 h1 (by omega) (by simp [ho]) c1
        refine ⟨l, i', h', Ev.step (fun _ => rfl) (ev_pos (by omega) (ev_bindc e (ev_neg hb (ev_pos (by omega) ?_)))), hl, c'⟩
        rw [hw]; exact hh
  exact key n.toNat 0 [] i h (by omega) rfl c
theorem drawStuff_ok (l : List Int) (hl : l.length ≤ 9223372036854775807) : ∃ b, Ev (fun k => spec_DrawStuff.f k l) b ∧ b.length ≤ 10000 := by
  unfold spec_DrawStuff.f
  obtain ⟨h0, e0⟩ := new_ok l hl
  have c0 := cur_new l hl
  obtain ⟨n, en, hn, hn2⟩ := size_ok l 40 hl
  have hn2' := hn2 (by omega)
  obtain ⟨x, i1, h1, e1, x0, x1, xz, c1⟩ := below_ok l 0 h0 (wrap64 (3 * n)) c0
  have hx : x < 3 * n := by have := x1 (by rw [wrap_in (by omega) (by omega)]; omega); rwa [wrap_in (by omega) (by omega)] at this
  obtain ⟨b, i2, h2, e2, hb, c2⟩ := drawBits_ok l i1 h1 x (by omega) c1
  obtain ⟨q, i3, h3, e3, c3⟩ := once_ok l i2 h2 30 c2
  have tail : ∀ (b : List Int) (i h : Int), b.length ≤ 200 → Cur l i → ∃ b', Ev (fun k => spec_DrawStuff.j0 k b l i h) b' ∧ b'.length ≤ 10000 := by
    intro b i h hb c
    obtain ⟨q, i4, h4, e4, c4⟩ := once_ok l i h 60 c
    by_cases hq : q = true
    · obtain ⟨y, i5, h5, e5, y0, y1, _, c5⟩ := below_ok l i4 h4 2 c4
      have := y1 (by omega)
      refine ⟨List.replicate ((2000 + y)).toNat 0, Ev.step (fun _ => rfl) (ev_bindc e4 (ev_pos hq (ev_bindc e5 ?_))), by simp; omega⟩
      simp only [wrap_in (x := 2000 + y) (by omega) (by omega)]
      exact ev_pos (by omega) (ev_pos (by omega) (ev_some _))
    · exact ⟨b, Ev.step (fun _ => rfl) (ev_bindc e4 (ev_neg hq (ev_some _))), by omega⟩
  by_cases hq : q = true
  · obtain ⟨y, i4, h4, e4, _, c4⟩ := pickInt_ok l i3 h3 [2, -1] (by simp) (by simp) c3
    obtain ⟨b', hb', hl'⟩ := tail (b ++ [y]) i4 h4 (by simp; omega) c4
    exact ⟨b', Ev.bind e0 (ev_bindc en (ev_bindc e1 (Ev.bind e2 (ev_bindc e3 (ev_pos hq (ev_bindc e4 (ev_pos (by dsimp only; omega) hb'))))))), hl'⟩
  · obtain ⟨b', hb', hl'⟩ := tail b i3 h3 (by omega) c3
    exact ⟨b', Ev.bind e0 (ev_bindc en (ev_bindc e1 (Ev.bind e2 (ev_bindc e3 (ev_neg hq hb'))))), hl'⟩
end Go.Proofs.Ytkmncnkohkfkoaa.Pure
