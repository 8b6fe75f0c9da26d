/- A part of a proof that a law of the given program holds for every input: no condition. -/
import Derived.Test.YtfgefmkcmkihhaaProg
import Derived.KernelRfl
import Derived.Test.YtfgefmkcmkihhaaKFnExactCarryAll1

/-! Seize. -/
namespace Go.Proofs.YtfgefmkcmkihhaaE
open Go Go.RowKit
set_option linter.unusedSimpArgs false
set_option linter.unusedVariables false
set_option maxRecDepth 20000

def freeAt (c : List Int) (j : Nat) : Prop := c.getD j 0 = 0
def ownAt (s : Int) (j : Nat) : Prop := (j : Int).tmod 2 = s
open Classical in
noncomputable def ownF (c : List Int) (s : Int) : Nat → Int
  | 0 => -1
  | k + 1 => if ownF c s k < 0 ∧ freeAt c k ∧ ownAt s k then k else ownF c s k
open Classical in
noncomputable def othF (c : List Int) (s : Int) : Nat → Int
  | 0 => -1
  | k + 1 => if freeAt c k ∧ ¬ ownAt s k then k else othF c s k
noncomputable def pick (c : List Int) (s : Int) : Int := if ownF c s c.length < 0 then othF c s c.length else ownF c s c.length
theorem ownF_ch (c : List Int) (s : Int) : ∀ k, (ownF c s k = -1 ∧ ∀ j, j < k → ¬ (freeAt c j ∧ ownAt s j)) ∨ ∃ i : Nat, i < k ∧ ownF c s k = i ∧ freeAt c i ∧ ownAt s i ∧ ∀ j, j < i → ¬ (freeAt c j ∧ ownAt s j)
  | 0 => .inl ⟨rfl, fun j hj => absurd hj (Nat.not_lt_zero _)⟩
  | k + 1 => by
    unfold ownF
    rcases ownF_ch c s k with ⟨h1, h2⟩ | ⟨i, h1, h2, h3, h4, h5⟩
    · by_cases h : freeAt c k ∧ ownAt s k
      · rw [if_pos ⟨by omega, h⟩]
        exact .inr ⟨k, by omega, rfl, h.1, h.2, h2⟩
      · rw [if_neg (fun e => h e.2)]
        refine .inl ⟨h1, fun j hj => ?_⟩
        by_cases e : j = k
        · rw [e]; exact h
        · exact h2 j (by omega)
    · rw [if_neg (fun e => by omega)]
      exact .inr ⟨i, by omega, h2, h3, h4, h5⟩
theorem othF_ch (c : List Int) (s : Int) : ∀ k, (othF c s k = -1 ∧ ∀ j, j < k → ¬ (freeAt c j ∧ ¬ ownAt s j)) ∨ ∃ i : Nat, i < k ∧ othF c s k = i ∧ freeAt c i ∧ ¬ ownAt s i ∧ ∀ j, i < j → j < k → ¬ (freeAt c j ∧ ¬ ownAt s j)
  | 0 => .inl ⟨rfl, fun j hj => absurd hj (Nat.not_lt_zero _)⟩
  | k + 1 => by
    unfold othF
    by_cases h : freeAt c k ∧ ¬ ownAt s k
    · rw [if_pos h]
      exact .inr ⟨k, by omega, rfl, h.1, h.2, fun j h1 h2 => by omega⟩
    · rw [if_neg h]
      rcases othF_ch c s k with ⟨h1, h2⟩ | ⟨i, h1, h2, h3, h4, h5⟩
      · refine .inl ⟨h1, fun j hj => ?_⟩
        by_cases e : j = k
        · rw [e]; exact h
        · exact h2 j (by omega)
      · refine .inr ⟨i, by omega, h2, h3, h4, fun j h6 h7 => ?_⟩
        by_cases e : j = k
        · rw [e]; exact h
        · exact h5 j h6 (by omega)
/-- The places from k on: nothing of ours is free, or the first that is. -/
def Down1 (c : List Int) (s : Int) (k : Nat) (got : Int) : Prop :=
  (got = -1 ∧ ∀ j, k ≤ j → j < c.length → ¬ (freeAt c j ∧ ownAt s j)) ∨ ∃ i : Nat, k ≤ i ∧ i < c.length ∧ got = i ∧ freeAt c i ∧ ownAt s i ∧ ∀ j, k ≤ j → j < i → ¬ (freeAt c j ∧ ownAt s j)
theorem down1_end {c : List Int} {s got : Int} (h : Down1 c s 0 got) : got = ownF c s c.length := by
  rcases h with ⟨h1, h2⟩ | ⟨i, _, h1, h2, h3, h4, h5⟩ <;> rcases ownF_ch c s c.length with ⟨k1, k2⟩ | ⟨i', k1, k2, k3, k4, k5⟩
  · omega
  · exact absurd ⟨k3, k4⟩ (h2 i' (Nat.zero_le _) k1)
  · exact absurd ⟨h3, h4⟩ (k2 i h1)
  · rw [h2, k2]
    rcases Nat.lt_trichotomy i i' with h | h | h
    · exact absurd ⟨h3, h4⟩ (k5 i h)
    · rw [h]
    · exact absurd ⟨k3, k4⟩ (h5 i' (Nat.zero_le _) h)
/-- The second search, from k on: none free yet, or it has stopped. -/
def Down2 (c : List Int) (s : Int) (k : Nat) (got : Int) : Prop :=
  (got < 0 ∧ ownF c s c.length = -1 ∧ got = -1 ∧ ∀ j, k ≤ j → j < c.length → ¬ freeAt c j) ∨ (0 ≤ got ∧ got = pick c s)
theorem down2_start {c : List Int} {s got : Int} (h : got = ownF c s c.length) : Down2 c s c.length got := by
  rcases ownF_ch c s c.length with ⟨k1, k2⟩ | ⟨i', k1, k2, k3, k4, k5⟩
  · exact .inl ⟨by omega, k1, by omega, fun j h1 h2 => by omega⟩
  · refine .inr ⟨by omega, ?_⟩
    unfold pick; rw [if_neg (by omega), h]
theorem down2_hit {c : List Int} {s : Int} {k : Nat} {got : Int} (h : Down2 c s (k + 1) got) (hg : got < 0) (hk : k < c.length) (hf : freeAt c k) : (k : Int) = pick c s := by
  rcases h with ⟨h1, h2, h3, h4⟩ | ⟨h1, _⟩
  · unfold pick; rw [if_pos (by omega)]
    rcases ownF_ch c s c.length with ⟨o1, o2⟩ | ⟨i', o1, o3, _⟩
    · rcases othF_ch c s c.length with ⟨k1, k2⟩ | ⟨i', k1, k2, k3, k4, k5⟩
      · exact absurd ⟨hf, fun e => o2 k hk ⟨hf, e⟩⟩ (k2 k hk)
      · rw [k2]
        rcases Nat.lt_trichotomy k i' with h | h | h
        · exact absurd k3 (h4 i' (by omega) k1)
        · rw [h]
        · exact absurd ⟨hf, fun e => o2 k hk ⟨hf, e⟩⟩ (k5 k h hk)
    · omega
  · omega
theorem down2_end {c : List Int} {s : Int} {got : Int} (h : Down2 c s 0 got) : got = pick c s := by
  rcases h with ⟨h1, h2, h3, h4⟩ | ⟨_, h1⟩
  · unfold pick; rw [if_pos (by omega), h3]
    rcases othF_ch c s c.length with ⟨k1, k2⟩ | ⟨i', k1, k2, k3, k4, k5⟩
    · rw [k1]
    · exact absurd k3 (h4 i' (Nat.zero_le _) k1)
  · exact h1
theorem down1_hit {c : List Int} {s : Int} {k : Nat} {got : Int} (h : Down1 c s (k + 1) got) (hk : k < c.length) (hf : freeAt c k) (ho : ownAt s k) : Down1 c s k k :=
  .inr ⟨k, Nat.le_refl _, hk, rfl, hf, ho, fun j h1 h2 => by omega⟩
theorem down1_miss {c : List Int} {s : Int} {k : Nat} {got : Int} (h : Down1 c s (k + 1) got) (hn : ¬ (freeAt c k ∧ ownAt s k)) : Down1 c s k got := by
  rcases h with ⟨h1, h2⟩ | ⟨i, h1, h2, h3, h4, h5, h6⟩
  · refine .inl ⟨h1, fun j hj hl => ?_⟩
    by_cases e : j = k
    · rw [e]; exact hn
    · exact h2 j (by omega) hl
  · refine .inr ⟨i, by omega, h2, h3, h4, h5, fun j hj hl => ?_⟩
    by_cases e : j = k
    · rw [e]; exact hn
    · exact h6 j (by omega) hl
theorem down2_miss {c : List Int} {s : Int} {k : Nat} {got : Int} (h : Down2 c s (k + 1) got) (hg : got < 0) (hn : ¬ freeAt c k) : Down2 c s k got := by
  rcases h with ⟨h1, h2, h3, h4⟩ | ⟨h1, _⟩
  · refine .inl ⟨h1, h2, h3, fun j hj hl => ?_⟩
    by_cases e : j = k
    · rw [e]; exact hn
    · exact h4 j (by omega) hl
  · omega
theorem down2_got {c : List Int} {s : Int} {k : Nat} {got : Int} (h : Down2 c s k got) (hg : ¬ got < 0) : got = pick c s := by
  rcases h with ⟨h1, _⟩ | ⟨_, h2⟩
  · exact absurd h1 hg
  · exact h2
theorem pick_ch (c : List Int) (s : Int) : pick c s = -1 ∨ ∃ i : Nat, i < c.length ∧ pick c s = i := by
  unfold pick
  rcases ownF_ch c s c.length with ⟨k1, k2⟩ | ⟨i', k1, k2, k3, k4, k5⟩
  · rw [if_pos (by omega)]
    rcases othF_ch c s c.length with ⟨k1, k2⟩ | ⟨i', k1, k2, k3, k4, k5⟩
    · exact .inl k1
    · exact .inr ⟨i', k1, k2⟩
  · rw [if_neg (by omega)]
    exact .inr ⟨i', k1, k2⟩
def seizeOk (t : Tr) (s : Int) : Prop := trOk t = true ∧ (0 ≤ s ∧ s ≤ 1) ∧ ¬ ((t.q (1 - s)).length : Int) = 60 ∧ 0 ≤ pick (t.c s) s
open Classical in
noncomputable def seize (t : Tr) (s : Int) : Tr × Int :=
  if seizeOk t s then ((t.setC s ((t.c s).set (pick (t.c s) s).toNat 1)).setQ (1 - s) (t.q (1 - s) ++ [⟨1, pick (t.c s) s⟩]), pick (t.c s) s) else (t, -1)
theorem seize_no {t : Tr} {s : Int} (h : ¬ seizeOk t s) : seize t s = (t, -1) := if_neg h
theorem seize_yes {t : Tr} {s : Int} (h : seizeOk t s) : seize t s = ((t.setC s ((t.c s).set (pick (t.c s) s).toNat 1)).setQ (1 - s) (t.q (1 - s) ++ [⟨1, pick (t.c s) s⟩]), pick (t.c s) s) := if_pos h
def spSeize : Spec := ⟨fun _ => [], fun args objs K => match args, objs with
  | [.agg [.rs .int c0, .rs .int c1, .v (.int .i64 x), .v (.int .i64 y), .rs .note q0, .rs .note q1], .v (.int .i64 side)], [] => (c0.length ≤ 1099511627776 ∧ c1.length ≤ 1099511627776 ∧ q0.length ≤ 1099511627776 ∧ q1.length ≤ 1099511627776) ∧
      K (.tup [trA (seize ⟨c0, c1, x, y, q0, q1⟩ side).1, .v (.int .i64 (seize ⟨c0, c1, x, y, q0, q1⟩ side).2)]) (trL (seize ⟨c0, c1, x, y, q0, q1⟩ side).1) 4
  | _, _ => False⟩
theorem spSeize_t {a : List AVal} : spSeize.take a = [] := id rfl
theorem spSeize_f {c0} {c1} {x} {y} {q0} {q1} {side} {K : AVal → Hp → Nat → Prop} : Spec.f spSeize ([.agg [.rs .int c0, .rs .int c1, .v (.int .i64 x), .v (.int .i64 y), .rs .note q0, .rs .note q1], .v (.int .i64 side)]) ([]) K = ((c0.length ≤ 1099511627776 ∧ c1.length ≤ 1099511627776 ∧ q0.length ≤ 1099511627776 ∧ q1.length ≤ 1099511627776) ∧
      K (.tup [trA (seize ⟨c0, c1, x, y, q0, q1⟩ side).1, .v (.int .i64 (seize ⟨c0, c1, x, y, q0, q1⟩ side).2)]) (trL (seize ⟨c0, c1, x, y, q0, q1⟩ side).1) 4) := id rfl
theorem valid16 : Valid Try.prog 16 spSeize := by
  refine validI (Γ := lk [(35, spToTr), (36, spTrOk), (37, spIn)]) Try.func16 bod16 low16 res16 (good_of ⟨⟨cal35, valid35⟩, ⟨cal36, valid36⟩, ⟨cal37, valid37⟩, trivial⟩) ?_
  intro E args objs K h hE hG hP
  simp only [spSeize] at h
  split at h
  · refine ⟨by simp [Try.ntmps16], ?_⟩
    rename_i c0 c1 x y q0 q1 side
    obtain ⟨⟨b1, b2, b3, b4⟩, h⟩ := h
    rcases side_cases side with hs | hs | hs
    · simp only [go_sem, hG, hP, Nat.reduceEqDiff, ↓reduceIte, reduceCtorEq, Nat.reduceAdd, Nat.reduceSub, Nat.reduceMul, Nat.reduceLT, Nat.reduceLeDiff, Int.reduceAdd, Int.reduceSub, Int.reduceMul, Int.reduceLT, Int.reduceLE, Int.reduceEq, Int.reduceNeg, Int.reduceNe, Int.reduceGE, Int.reduceGT, Nat.reduceBEq, Int.reduceToNat,  spToTr_f, spToTr_t, spTrOk_f, spTrOk_t, spIn_f, spIn_t, hs]
      repeat (refine And.intro (by first | omega | (simp; done) | (simp; omega) | (unfold appRoom; omega)) ?_)
      have no : ¬ seizeOk ⟨c0, c1, x, y, q0, q1⟩ side := fun e => by have := e.2.1; rw [hs] at this; exact this
      rw [seize_no no] at h
      refine ⟨fun hT => ⟨_, _, _, ?_, h⟩, fun hT => ⟨_, _, _, ?_, h⟩⟩
      · simp only [trA_eq, trL_eq]
        simp only [go_sem, hG, hP, Nat.reduceEqDiff, ↓reduceIte, reduceCtorEq, Nat.reduceAdd, Nat.reduceSub, Nat.reduceMul, Nat.reduceLT, Nat.reduceLeDiff, Int.reduceAdd, Int.reduceSub, Int.reduceMul, Int.reduceLT, Int.reduceLE, Int.reduceEq, Int.reduceNeg, Int.reduceNe, Int.reduceGE, Int.reduceGT, Nat.reduceBEq, Int.reduceToNat]
        all_goals simp
      · simp only [trA_eq, trL_eq]
        simp only [go_sem, hG, hP, Nat.reduceEqDiff, ↓reduceIte, reduceCtorEq, Nat.reduceAdd, Nat.reduceSub, Nat.reduceMul, Nat.reduceLT, Nat.reduceLeDiff, Int.reduceAdd, Int.reduceSub, Int.reduceMul, Int.reduceLT, Int.reduceLE, Int.reduceEq, Int.reduceNeg, Int.reduceNe, Int.reduceGE, Int.reduceGT, Nat.reduceBEq, Int.reduceToNat]
        all_goals simp
    · subst hs
      simp only [go_sem, hG, hP, Nat.reduceEqDiff, ↓reduceIte, reduceCtorEq, Nat.reduceAdd, Nat.reduceSub, Nat.reduceMul, Nat.reduceLT, Nat.reduceLeDiff, Int.reduceAdd, Int.reduceSub, Int.reduceMul, Int.reduceLT, Int.reduceLE, Int.reduceEq, Int.reduceNeg, Int.reduceNe, Int.reduceGE, Int.reduceGT, Nat.reduceBEq, Int.reduceToNat,  spToTr_f, spToTr_t, spTrOk_f, spTrOk_t, spIn_f, spIn_t]
      (try simp (disch := omega) only [wrap_id])
      repeat (refine And.intro (by first | omega | (simp; done) | (simp; omega) | (unfold appRoom; omega)) ?_)
      refine ⟨fun hT => ⟨fun hq => ?_, fun hq => ?_⟩, fun hT => ?_⟩
      rotate_left
      rotate_left
      · rw [seize_no (t := ⟨c0, c1, x, y, q0, q1⟩) (s := 0) (fun e => by rw [e.1] at hT; cases hT)] at h
        refine ⟨_, _, _, ?_, h⟩
        simp only [trA_eq, trL_eq]
        simp only [go_sem, hG, hP, Nat.reduceEqDiff, ↓reduceIte, reduceCtorEq, Nat.reduceAdd, Nat.reduceSub, Nat.reduceMul, Nat.reduceLT, Nat.reduceLeDiff, Int.reduceAdd, Int.reduceSub, Int.reduceMul, Int.reduceLT, Int.reduceLE, Int.reduceEq, Int.reduceNeg, Int.reduceNe, Int.reduceGE, Int.reduceGT, Nat.reduceBEq, Int.reduceToNat]
        all_goals simp
      · rw [seize_no (t := ⟨c0, c1, x, y, q0, q1⟩) (s := 0) (fun e => e.2.2.1 hq)] at h
        refine ⟨_, _, _, ?_, h⟩
        simp only [trA_eq, trL_eq]
        simp only [go_sem, hG, hP, Nat.reduceEqDiff, ↓reduceIte, reduceCtorEq, Nat.reduceAdd, Nat.reduceSub, Nat.reduceMul, Nat.reduceLT, Nat.reduceLeDiff, Int.reduceAdd, Int.reduceSub, Int.reduceMul, Int.reduceLT, Int.reduceLE, Int.reduceEq, Int.reduceNeg, Int.reduceNe, Int.reduceGE, Int.reduceGT, Nat.reduceBEq, Int.reduceToNat]
        all_goals simp
      have hL : c0.length = c1.length ∧ 1 ≤ c0.length ∧ c0.length ≤ 24 := trOk_head hT
      refine loopI hE (fun p : Nat × Int => ⟨[(1, .v (.int .i64 0)), (2, .ptr 0 0), (4, .ptr 1 0), (6, .v (.int .i64 p.2)), (7, .sub 2 1 0 c0.length), (8, .v (.int .i64 ((p.1 : Int) - 1)))], [(0, .box [.sub 2 1 0 c0.length, .sub 3 1 0 c1.length, .v (.int .i64 x), .v (.int .i64 y), .sub 4 2 0 q0.length, .sub 5 2 0 q1.length]), (1, .box [.v (.slice none 0 0), .v (.slice none 0 0), .v (.int .i64 0), .v (.int .i64 0), .v (.slice none 0 0), .v (.slice none 0 0)]), (2, .row .int c0), (3, .row .int c1), (4, .row .note q0), (5, .row .note q1)], 6, Try.f16.ntmps⟩) (fun p => p.1 ≤ c0.length ∧ Down1 c0 0 p.1 p.2) (fun p => p.1) ⟨(c0.length, -1), ⟨Nat.le_refl _, .inl ⟨rfl, fun j h1 h2 => by omega⟩⟩, SubS.weak ?_⟩ ?_
      · simp only [go_sem, hG, hP, Nat.reduceEqDiff, ↓reduceIte, reduceCtorEq, Nat.reduceAdd, Nat.reduceSub, Nat.reduceMul, Nat.reduceLT, Nat.reduceLeDiff, Int.reduceAdd, Int.reduceSub, Int.reduceMul, Int.reduceLT, Int.reduceLE, Int.reduceEq, Int.reduceNeg, Int.reduceNe, Int.reduceGE, Int.reduceGT, Nat.reduceBEq, Int.reduceToNat]
        all_goals simp
      · rintro ⟨k, got⟩ ⟨hk, hD⟩
        dsimp only at hk hD ⊢
        rcases k with _ | k
        · simp only [go_sem, hG, hP, Nat.reduceEqDiff, ↓reduceIte, reduceCtorEq, Nat.reduceAdd, Nat.reduceSub, Nat.reduceMul, Nat.reduceLT, Nat.reduceLeDiff, Int.reduceAdd, Int.reduceSub, Int.reduceMul, Int.reduceLT, Int.reduceLE, Int.reduceEq, Int.reduceNeg, Int.reduceNe, Int.reduceGE, Int.reduceGT, Nat.reduceBEq, Int.reduceToNat,  show ((0 : Nat) : Int) - 1 = -1 from rfl]
          have hg := down1_end hD
          refine loopI hE (fun p : Nat × Int => ⟨[(1, .v (.int .i64 0)), (2, .ptr 0 0), (4, .ptr 1 0), (6, .v (.int .i64 p.2)), (7, .sub 2 1 0 c0.length), (9, .v (.int .i64 ((p.1 : Int) - 1)))], [(0, .box [.sub 2 1 0 c0.length, .sub 3 1 0 c1.length, .v (.int .i64 x), .v (.int .i64 y), .sub 4 2 0 q0.length, .sub 5 2 0 q1.length]), (1, .box [.v (.slice none 0 0), .v (.slice none 0 0), .v (.int .i64 0), .v (.int .i64 0), .v (.slice none 0 0), .v (.slice none 0 0)]), (2, .row .int c0), (3, .row .int c1), (4, .row .note q0), (5, .row .note q1)], 6, Try.f16.ntmps⟩) (fun p => p.1 ≤ c0.length ∧ Down2 c0 0 p.1 p.2) (fun p => p.1) ⟨(c0.length, got), ⟨Nat.le_refl _, down2_start hg⟩, SubS.weak ?_⟩ ?_
          · simp only [go_sem, hG, hP, Nat.reduceEqDiff, ↓reduceIte, reduceCtorEq, Nat.reduceAdd, Nat.reduceSub, Nat.reduceMul, Nat.reduceLT, Nat.reduceLeDiff, Int.reduceAdd, Int.reduceSub, Int.reduceMul, Int.reduceLT, Int.reduceLE, Int.reduceEq, Int.reduceNeg, Int.reduceNe, Int.reduceGE, Int.reduceGT, Nat.reduceBEq, Int.reduceToNat]
            (try simp (disch := omega) only [wrap_id])
            all_goals simp
          · rintro ⟨k, got⟩ ⟨hk, hD⟩
            dsimp only at hk hD ⊢
            rcases k with _ | k
            · have hp : got = pick c0 0 := down2_end hD
              simp only [go_sem, hG, hP, Nat.reduceEqDiff, ↓reduceIte, reduceCtorEq, Nat.reduceAdd, Nat.reduceSub, Nat.reduceMul, Nat.reduceLT, Nat.reduceLeDiff, Int.reduceAdd, Int.reduceSub, Int.reduceMul, Int.reduceLT, Int.reduceLE, Int.reduceEq, Int.reduceNeg, Int.reduceNe, Int.reduceGE, Int.reduceGT, Nat.reduceBEq, Int.reduceToNat,  show ((0 : Nat) : Int) - 1 = -1 from rfl]
              refine ⟨fun hg => ?_, fun hg => ?_⟩
              · have hb : got < c0.length := by rcases pick_ch c0 0 with e | ⟨i, hi, e⟩ <;> omega
                repeat (refine And.intro (by first | omega | (simp; done) | (simp; omega) | (unfold appRoom; omega)) ?_)
                rw [seize_yes (t := ⟨c0, c1, x, y, q0, q1⟩) (s := 0) ⟨hT, by omega, hq, by simp only [c_0, ← hp]; omega⟩] at h
                refine ⟨_, _, _, ?_, h⟩
                simp only [c_0, show (1 : Int) - 0 = 1 from rfl, q_1, setC_0, setQ_1, trA_eq, trL_eq, ← hp]
                simp only [go_sem, hG, hP, Nat.reduceEqDiff, ↓reduceIte, reduceCtorEq, Nat.reduceAdd, Nat.reduceSub, Nat.reduceMul, Nat.reduceLT, Nat.reduceLeDiff, Int.reduceAdd, Int.reduceSub, Int.reduceMul, Int.reduceLT, Int.reduceLE, Int.reduceEq, Int.reduceNeg, Int.reduceNe, Int.reduceGE, Int.reduceGT, Nat.reduceBEq, Int.reduceToNat]
                all_goals simp
              · have hm : got = -1 := by rcases pick_ch c0 0 with e | ⟨i, hi, e⟩ <;> omega
                rw [seize_no (t := ⟨c0, c1, x, y, q0, q1⟩) (s := 0) (fun e => hg (by rw [hp]; exact e.2.2.2))] at h
                refine ⟨_, _, _, ?_, h⟩
                simp only [trA_eq, trL_eq]
                simp only [go_sem, hG, hP, Nat.reduceEqDiff, ↓reduceIte, reduceCtorEq, Nat.reduceAdd, Nat.reduceSub, Nat.reduceMul, Nat.reduceLT, Nat.reduceLeDiff, Int.reduceAdd, Int.reduceSub, Int.reduceMul, Int.reduceLT, Int.reduceLE, Int.reduceEq, Int.reduceNeg, Int.reduceNe, Int.reduceGE, Int.reduceGT, Nat.reduceBEq, Int.reduceToNat]
                all_goals simp [hm]
            · simp only [go_sem, hG, hP, Nat.reduceEqDiff, ↓reduceIte, reduceCtorEq, Nat.reduceAdd, Nat.reduceSub, Nat.reduceMul, Nat.reduceLT, Nat.reduceLeDiff, Int.reduceAdd, Int.reduceSub, Int.reduceMul, Int.reduceLT, Int.reduceLE, Int.reduceEq, Int.reduceNeg, Int.reduceNe, Int.reduceGE, Int.reduceGT, Nat.reduceBEq, Int.reduceToNat,  show ∀ n : Nat, ((n + 1 : Nat) : Int) - 1 = n from fun n => by omega]
              (try simp (disch := omega) only [wrap_id])
              refine ⟨fun _ => ⟨fun hg => ?_, fun hg => ?_⟩, fun hn => absurd (Int.natCast_nonneg k) hn⟩
              · repeat (refine And.intro (by first | omega | (simp; done) | (simp; omega) | (unfold appRoom; omega)) ?_)
                refine ⟨fun hf => ⟨(k, (k : Int)), ⟨⟨by dsimp only; omega, .inr ⟨by omega, down2_hit hD hg (by omega) hf⟩⟩, by dsimp only; omega⟩, SubS.weak ?_⟩, fun hf => ⟨(k, got), ⟨⟨by dsimp only; omega, down2_miss hD hg hf⟩, by dsimp only; omega⟩, SubS.weak ?_⟩⟩
                · simp only [go_sem, hG, hP, Nat.reduceEqDiff, ↓reduceIte, reduceCtorEq, Nat.reduceAdd, Nat.reduceSub, Nat.reduceMul, Nat.reduceLT, Nat.reduceLeDiff, Int.reduceAdd, Int.reduceSub, Int.reduceMul, Int.reduceLT, Int.reduceLE, Int.reduceEq, Int.reduceNeg, Int.reduceNe, Int.reduceGE, Int.reduceGT, Nat.reduceBEq, Int.reduceToNat]
                  all_goals simp
                · simp only [go_sem, hG, hP, Nat.reduceEqDiff, ↓reduceIte, reduceCtorEq, Nat.reduceAdd, Nat.reduceSub, Nat.reduceMul, Nat.reduceLT, Nat.reduceLeDiff, Int.reduceAdd, Int.reduceSub, Int.reduceMul, Int.reduceLT, Int.reduceLE, Int.reduceEq, Int.reduceNeg, Int.reduceNe, Int.reduceGE, Int.reduceGT, Nat.reduceBEq, Int.reduceToNat]
                  all_goals simp
              · have hp : got = pick c0 0 := down2_got hD hg
                refine ⟨fun hg => ?_, fun hg => ?_⟩
                · have hb : got < c0.length := by rcases pick_ch c0 0 with e | ⟨i, hi, e⟩ <;> omega
                  repeat (refine And.intro (by first | omega | (simp; done) | (simp; omega) | (unfold appRoom; omega)) ?_)
                  rw [seize_yes (t := ⟨c0, c1, x, y, q0, q1⟩) (s := 0) ⟨hT, by omega, hq, by simp only [c_0, ← hp]; omega⟩] at h
                  refine ⟨_, _, _, ?_, h⟩
                  simp only [c_0, show (1 : Int) - 0 = 1 from rfl, q_1, setC_0, setQ_1, trA_eq, trL_eq, ← hp]
                  simp only [go_sem, hG, hP, Nat.reduceEqDiff, ↓reduceIte, reduceCtorEq, Nat.reduceAdd, Nat.reduceSub, Nat.reduceMul, Nat.reduceLT, Nat.reduceLeDiff, Int.reduceAdd, Int.reduceSub, Int.reduceMul, Int.reduceLT, Int.reduceLE, Int.reduceEq, Int.reduceNeg, Int.reduceNe, Int.reduceGE, Int.reduceGT, Nat.reduceBEq, Int.reduceToNat]
                  all_goals simp
                · have hm : got = -1 := by rcases pick_ch c0 0 with e | ⟨i, hi, e⟩ <;> omega
                  rw [seize_no (t := ⟨c0, c1, x, y, q0, q1⟩) (s := 0) (fun e => hg (by rw [hp]; exact e.2.2.2))] at h
                  refine ⟨_, _, _, ?_, h⟩
                  simp only [trA_eq, trL_eq]
                  simp only [go_sem, hG, hP, Nat.reduceEqDiff, ↓reduceIte, reduceCtorEq, Nat.reduceAdd, Nat.reduceSub, Nat.reduceMul, Nat.reduceLT, Nat.reduceLeDiff, Int.reduceAdd, Int.reduceSub, Int.reduceMul, Int.reduceLT, Int.reduceLE, Int.reduceEq, Int.reduceNeg, Int.reduceNe, Int.reduceGE, Int.reduceGT, Nat.reduceBEq, Int.reduceToNat]
                  all_goals simp [hm]
        · simp only [go_sem, hG, hP, Nat.reduceEqDiff, ↓reduceIte, reduceCtorEq, Nat.reduceAdd, Nat.reduceSub, Nat.reduceMul, Nat.reduceLT, Nat.reduceLeDiff, Int.reduceAdd, Int.reduceSub, Int.reduceMul, Int.reduceLT, Int.reduceLE, Int.reduceEq, Int.reduceNeg, Int.reduceNe, Int.reduceGE, Int.reduceGT, Nat.reduceBEq, Int.reduceToNat,  show ∀ n : Nat, ((n + 1 : Nat) : Int) - 1 = n from fun n => by omega]
          (try simp (disch := omega) only [wrap_id])
          refine ⟨fun _ => ?_, fun hn => absurd (Int.natCast_nonneg k) hn⟩
          repeat (refine And.intro (by first | omega | (simp; done) | (simp; omega) | (unfold appRoom; omega)) ?_)
          refine ⟨fun hf => ⟨fun ho => ⟨(k, (k : Int)), ⟨⟨by dsimp only; omega, down1_hit hD (by omega) hf ho⟩, by dsimp only; omega⟩, SubS.weak ?_⟩, fun ho => ⟨(k, got), ⟨⟨by dsimp only; omega, down1_miss hD (fun e => ho e.2)⟩, by dsimp only; omega⟩, SubS.weak ?_⟩⟩, fun hf => ⟨(k, got), ⟨⟨by dsimp only; omega, down1_miss hD (fun e => hf e.1)⟩, by dsimp only; omega⟩, SubS.weak ?_⟩⟩
          · simp only [go_sem, hG, hP, Nat.reduceEqDiff, ↓reduceIte, reduceCtorEq, Nat.reduceAdd, Nat.reduceSub, Nat.reduceMul, Nat.reduceLT, Nat.reduceLeDiff, Int.reduceAdd, Int.reduceSub, Int.reduceMul, Int.reduceLT, Int.reduceLE, Int.reduceEq, Int.reduceNeg, Int.reduceNe, Int.reduceGE, Int.reduceGT, Nat.reduceBEq, Int.reduceToNat]
            all_goals simp
          · simp only [go_sem, hG, hP, Nat.reduceEqDiff, ↓reduceIte, reduceCtorEq, Nat.reduceAdd, Nat.reduceSub, Nat.reduceMul, Nat.reduceLT, Nat.reduceLeDiff, Int.reduceAdd, Int.reduceSub, Int.reduceMul, Int.reduceLT, Int.reduceLE, Int.reduceEq, Int.reduceNeg, Int.reduceNe, Int.reduceGE, Int.reduceGT, Nat.reduceBEq, Int.reduceToNat]
            all_goals simp
          · simp only [go_sem, hG, hP, Nat.reduceEqDiff, ↓reduceIte, reduceCtorEq, Nat.reduceAdd, Nat.reduceSub, Nat.reduceMul, Nat.reduceLT, Nat.reduceLeDiff, Int.reduceAdd, Int.reduceSub, Int.reduceMul, Int.reduceLT, Int.reduceLE, Int.reduceEq, Int.reduceNeg, Int.reduceNe, Int.reduceGE, Int.reduceGT, Nat.reduceBEq, Int.reduceToNat]
            all_goals simp
    · subst hs
      simp only [go_sem, hG, hP, Nat.reduceEqDiff, ↓reduceIte, reduceCtorEq, Nat.reduceAdd, Nat.reduceSub, Nat.reduceMul, Nat.reduceLT, Nat.reduceLeDiff, Int.reduceAdd, Int.reduceSub, Int.reduceMul, Int.reduceLT, Int.reduceLE, Int.reduceEq, Int.reduceNeg, Int.reduceNe, Int.reduceGE, Int.reduceGT, Nat.reduceBEq, Int.reduceToNat,  spToTr_f, spToTr_t, spTrOk_f, spTrOk_t, spIn_f, spIn_t]
      (try simp (disch := omega) only [wrap_id])
      repeat (refine And.intro (by first | omega | (simp; done) | (simp; omega) | (unfold appRoom; omega)) ?_)
      refine ⟨fun hT => ⟨fun hq => ?_, fun hq => ?_⟩, fun hT => ?_⟩
      rotate_left
      rotate_left
      · rw [seize_no (t := ⟨c0, c1, x, y, q0, q1⟩) (s := 1) (fun e => by rw [e.1] at hT; cases hT)] at h
        refine ⟨_, _, _, ?_, h⟩
        simp only [trA_eq, trL_eq]
        simp only [go_sem, hG, hP, Nat.reduceEqDiff, ↓reduceIte, reduceCtorEq, Nat.reduceAdd, Nat.reduceSub, Nat.reduceMul, Nat.reduceLT, Nat.reduceLeDiff, Int.reduceAdd, Int.reduceSub, Int.reduceMul, Int.reduceLT, Int.reduceLE, Int.reduceEq, Int.reduceNeg, Int.reduceNe, Int.reduceGE, Int.reduceGT, Nat.reduceBEq, Int.reduceToNat]
        all_goals simp
      · rw [seize_no (t := ⟨c0, c1, x, y, q0, q1⟩) (s := 1) (fun e => e.2.2.1 hq)] at h
        refine ⟨_, _, _, ?_, h⟩
        simp only [trA_eq, trL_eq]
        simp only [go_sem, hG, hP, Nat.reduceEqDiff, ↓reduceIte, reduceCtorEq, Nat.reduceAdd, Nat.reduceSub, Nat.reduceMul, Nat.reduceLT, Nat.reduceLeDiff, Int.reduceAdd, Int.reduceSub, Int.reduceMul, Int.reduceLT, Int.reduceLE, Int.reduceEq, Int.reduceNeg, Int.reduceNe, Int.reduceGE, Int.reduceGT, Nat.reduceBEq, Int.reduceToNat]
        all_goals simp
      have hL : c0.length = c1.length ∧ 1 ≤ c0.length ∧ c0.length ≤ 24 := trOk_head hT
      refine loopI hE (fun p : Nat × Int => ⟨[(1, .v (.int .i64 1)), (2, .ptr 0 0), (4, .ptr 1 0), (6, .v (.int .i64 p.2)), (7, .sub 3 1 0 c1.length), (8, .v (.int .i64 ((p.1 : Int) - 1)))], [(0, .box [.sub 2 1 0 c0.length, .sub 3 1 0 c1.length, .v (.int .i64 x), .v (.int .i64 y), .sub 4 2 0 q0.length, .sub 5 2 0 q1.length]), (1, .box [.v (.slice none 0 0), .v (.slice none 0 0), .v (.int .i64 0), .v (.int .i64 0), .v (.slice none 0 0), .v (.slice none 0 0)]), (2, .row .int c0), (3, .row .int c1), (4, .row .note q0), (5, .row .note q1)], 6, Try.f16.ntmps⟩) (fun p => p.1 ≤ c1.length ∧ Down1 c1 1 p.1 p.2) (fun p => p.1) ⟨(c1.length, -1), ⟨Nat.le_refl _, .inl ⟨rfl, fun j h1 h2 => by omega⟩⟩, SubS.weak ?_⟩ ?_
      · simp only [go_sem, hG, hP, Nat.reduceEqDiff, ↓reduceIte, reduceCtorEq, Nat.reduceAdd, Nat.reduceSub, Nat.reduceMul, Nat.reduceLT, Nat.reduceLeDiff, Int.reduceAdd, Int.reduceSub, Int.reduceMul, Int.reduceLT, Int.reduceLE, Int.reduceEq, Int.reduceNeg, Int.reduceNe, Int.reduceGE, Int.reduceGT, Nat.reduceBEq, Int.reduceToNat]
        all_goals simp
      · rintro ⟨k, got⟩ ⟨hk, hD⟩
        dsimp only at hk hD ⊢
        rcases k with _ | k
        · simp only [go_sem, hG, hP, Nat.reduceEqDiff, ↓reduceIte, reduceCtorEq, Nat.reduceAdd, Nat.reduceSub, Nat.reduceMul, Nat.reduceLT, Nat.reduceLeDiff, Int.reduceAdd, Int.reduceSub, Int.reduceMul, Int.reduceLT, Int.reduceLE, Int.reduceEq, Int.reduceNeg, Int.reduceNe, Int.reduceGE, Int.reduceGT, Nat.reduceBEq, Int.reduceToNat,  show ((0 : Nat) : Int) - 1 = -1 from rfl]
          have hg := down1_end hD
          refine loopI hE (fun p : Nat × Int => ⟨[(1, .v (.int .i64 1)), (2, .ptr 0 0), (4, .ptr 1 0), (6, .v (.int .i64 p.2)), (7, .sub 3 1 0 c1.length), (9, .v (.int .i64 ((p.1 : Int) - 1)))], [(0, .box [.sub 2 1 0 c0.length, .sub 3 1 0 c1.length, .v (.int .i64 x), .v (.int .i64 y), .sub 4 2 0 q0.length, .sub 5 2 0 q1.length]), (1, .box [.v (.slice none 0 0), .v (.slice none 0 0), .v (.int .i64 0), .v (.int .i64 0), .v (.slice none 0 0), .v (.slice none 0 0)]), (2, .row .int c0), (3, .row .int c1), (4, .row .note q0), (5, .row .note q1)], 6, Try.f16.ntmps⟩) (fun p => p.1 ≤ c1.length ∧ Down2 c1 1 p.1 p.2) (fun p => p.1) ⟨(c1.length, got), ⟨Nat.le_refl _, down2_start hg⟩, SubS.weak ?_⟩ ?_
          · simp only [go_sem, hG, hP, Nat.reduceEqDiff, ↓reduceIte, reduceCtorEq, Nat.reduceAdd, Nat.reduceSub, Nat.reduceMul, Nat.reduceLT, Nat.reduceLeDiff, Int.reduceAdd, Int.reduceSub, Int.reduceMul, Int.reduceLT, Int.reduceLE, Int.reduceEq, Int.reduceNeg, Int.reduceNe, Int.reduceGE, Int.reduceGT, Nat.reduceBEq, Int.reduceToNat]
            (try simp (disch := omega) only [wrap_id])
            all_goals simp
          · rintro ⟨k, got⟩ ⟨hk, hD⟩
            dsimp only at hk hD ⊢
            rcases k with _ | k
            · have hp : got = pick c1 1 := down2_end hD
              simp only [go_sem, hG, hP, Nat.reduceEqDiff, ↓reduceIte, reduceCtorEq, Nat.reduceAdd, Nat.reduceSub, Nat.reduceMul, Nat.reduceLT, Nat.reduceLeDiff, Int.reduceAdd, Int.reduceSub, Int.reduceMul, Int.reduceLT, Int.reduceLE, Int.reduceEq, Int.reduceNeg, Int.reduceNe, Int.reduceGE, Int.reduceGT, Nat.reduceBEq, Int.reduceToNat,  show ((0 : Nat) : Int) - 1 = -1 from rfl]
              refine ⟨fun hg => ?_, fun hg => ?_⟩
              · have hb : got < c1.length := by rcases pick_ch c1 1 with e | ⟨i, hi, e⟩ <;> omega
                repeat (refine And.intro (by first | omega | (simp; done) | (simp; omega) | (unfold appRoom; omega)) ?_)
                rw [seize_yes (t := ⟨c0, c1, x, y, q0, q1⟩) (s := 1) ⟨hT, by omega, hq, by simp only [c_1, ← hp]; omega⟩] at h
                refine ⟨_, _, _, ?_, h⟩
                simp only [c_1, show (1 : Int) - 1 = 0 from rfl, q_0, setC_1, setQ_0, trA_eq, trL_eq, ← hp]
                simp only [go_sem, hG, hP, Nat.reduceEqDiff, ↓reduceIte, reduceCtorEq, Nat.reduceAdd, Nat.reduceSub, Nat.reduceMul, Nat.reduceLT, Nat.reduceLeDiff, Int.reduceAdd, Int.reduceSub, Int.reduceMul, Int.reduceLT, Int.reduceLE, Int.reduceEq, Int.reduceNeg, Int.reduceNe, Int.reduceGE, Int.reduceGT, Nat.reduceBEq, Int.reduceToNat]
                all_goals simp
              · have hm : got = -1 := by rcases pick_ch c1 1 with e | ⟨i, hi, e⟩ <;> omega
                rw [seize_no (t := ⟨c0, c1, x, y, q0, q1⟩) (s := 1) (fun e => hg (by rw [hp]; exact e.2.2.2))] at h
                refine ⟨_, _, _, ?_, h⟩
                simp only [trA_eq, trL_eq]
                simp only [go_sem, hG, hP, Nat.reduceEqDiff, ↓reduceIte, reduceCtorEq, Nat.reduceAdd, Nat.reduceSub, Nat.reduceMul, Nat.reduceLT, Nat.reduceLeDiff, Int.reduceAdd, Int.reduceSub, Int.reduceMul, Int.reduceLT, Int.reduceLE, Int.reduceEq, Int.reduceNeg, Int.reduceNe, Int.reduceGE, Int.reduceGT, Nat.reduceBEq, Int.reduceToNat]
                all_goals simp [hm]
            · simp only [go_sem, hG, hP, Nat.reduceEqDiff, ↓reduceIte, reduceCtorEq, Nat.reduceAdd, Nat.reduceSub, Nat.reduceMul, Nat.reduceLT, Nat.reduceLeDiff, Int.reduceAdd, Int.reduceSub, Int.reduceMul, Int.reduceLT, Int.reduceLE, Int.reduceEq, Int.reduceNeg, Int.reduceNe, Int.reduceGE, Int.reduceGT, Nat.reduceBEq, Int.reduceToNat,  show ∀ n : Nat, ((n + 1 : Nat) : Int) - 1 = n from fun n => by omega]
              (try simp (disch := omega) only [wrap_id])
              refine ⟨fun _ => ⟨fun hg => ?_, fun hg => ?_⟩, fun hn => absurd (Int.natCast_nonneg k) hn⟩
              · repeat (refine And.intro (by first | omega | (simp; done) | (simp; omega) | (unfold appRoom; omega)) ?_)
                refine ⟨fun hf => ⟨(k, (k : Int)), ⟨⟨by dsimp only; omega, .inr ⟨by omega, down2_hit hD hg (by omega) hf⟩⟩, by dsimp only; omega⟩, SubS.weak ?_⟩, fun hf => ⟨(k, got), ⟨⟨by dsimp only; omega, down2_miss hD hg hf⟩, by dsimp only; omega⟩, SubS.weak ?_⟩⟩
                · simp only [go_sem, hG, hP, Nat.reduceEqDiff, ↓reduceIte, reduceCtorEq, Nat.reduceAdd, Nat.reduceSub, Nat.reduceMul, Nat.reduceLT, Nat.reduceLeDiff, Int.reduceAdd, Int.reduceSub, Int.reduceMul, Int.reduceLT, Int.reduceLE, Int.reduceEq, Int.reduceNeg, Int.reduceNe, Int.reduceGE, Int.reduceGT, Nat.reduceBEq, Int.reduceToNat]
                  all_goals simp
                · simp only [go_sem, hG, hP, Nat.reduceEqDiff, ↓reduceIte, reduceCtorEq, Nat.reduceAdd, Nat.reduceSub, Nat.reduceMul, Nat.reduceLT, Nat.reduceLeDiff, Int.reduceAdd, Int.reduceSub, Int.reduceMul, Int.reduceLT, Int.reduceLE, Int.reduceEq, Int.reduceNeg, Int.reduceNe, Int.reduceGE, Int.reduceGT, Nat.reduceBEq, Int.reduceToNat]
                  all_goals simp
              · have hp : got = pick c1 1 := down2_got hD hg
                refine ⟨fun hg => ?_, fun hg => ?_⟩
                · have hb : got < c1.length := by rcases pick_ch c1 1 with e | ⟨i, hi, e⟩ <;> omega
                  repeat (refine And.intro (by first | omega | (simp; done) | (simp; omega) | (unfold appRoom; omega)) ?_)
                  rw [seize_yes (t := ⟨c0, c1, x, y, q0, q1⟩) (s := 1) ⟨hT, by omega, hq, by simp only [c_1, ← hp]; omega⟩] at h
                  refine ⟨_, _, _, ?_, h⟩
                  simp only [c_1, show (1 : Int) - 1 = 0 from rfl, q_0, setC_1, setQ_0, trA_eq, trL_eq, ← hp]
                  simp only [go_sem, hG, hP, Nat.reduceEqDiff, ↓reduceIte, reduceCtorEq, Nat.reduceAdd, Nat.reduceSub, Nat.reduceMul, Nat.reduceLT, Nat.reduceLeDiff, Int.reduceAdd, Int.reduceSub, Int.reduceMul, Int.reduceLT, Int.reduceLE, Int.reduceEq, Int.reduceNeg, Int.reduceNe, Int.reduceGE, Int.reduceGT, Nat.reduceBEq, Int.reduceToNat]
                  all_goals simp
                · have hm : got = -1 := by rcases pick_ch c1 1 with e | ⟨i, hi, e⟩ <;> omega
                  rw [seize_no (t := ⟨c0, c1, x, y, q0, q1⟩) (s := 1) (fun e => hg (by rw [hp]; exact e.2.2.2))] at h
                  refine ⟨_, _, _, ?_, h⟩
                  simp only [trA_eq, trL_eq]
                  simp only [go_sem, hG, hP, Nat.reduceEqDiff, ↓reduceIte, reduceCtorEq, Nat.reduceAdd, Nat.reduceSub, Nat.reduceMul, Nat.reduceLT, Nat.reduceLeDiff, Int.reduceAdd, Int.reduceSub, Int.reduceMul, Int.reduceLT, Int.reduceLE, Int.reduceEq, Int.reduceNeg, Int.reduceNe, Int.reduceGE, Int.reduceGT, Nat.reduceBEq, Int.reduceToNat]
                  all_goals simp [hm]
        · simp only [go_sem, hG, hP, Nat.reduceEqDiff, ↓reduceIte, reduceCtorEq, Nat.reduceAdd, Nat.reduceSub, Nat.reduceMul, Nat.reduceLT, Nat.reduceLeDiff, Int.reduceAdd, Int.reduceSub, Int.reduceMul, Int.reduceLT, Int.reduceLE, Int.reduceEq, Int.reduceNeg, Int.reduceNe, Int.reduceGE, Int.reduceGT, Nat.reduceBEq, Int.reduceToNat,  show ∀ n : Nat, ((n + 1 : Nat) : Int) - 1 = n from fun n => by omega]
          (try simp (disch := omega) only [wrap_id])
          refine ⟨fun _ => ?_, fun hn => absurd (Int.natCast_nonneg k) hn⟩
          repeat (refine And.intro (by first | omega | (simp; done) | (simp; omega) | (unfold appRoom; omega)) ?_)
          refine ⟨fun hf => ⟨fun ho => ⟨(k, (k : Int)), ⟨⟨by dsimp only; omega, down1_hit hD (by omega) hf ho⟩, by dsimp only; omega⟩, SubS.weak ?_⟩, fun ho => ⟨(k, got), ⟨⟨by dsimp only; omega, down1_miss hD (fun e => ho e.2)⟩, by dsimp only; omega⟩, SubS.weak ?_⟩⟩, fun hf => ⟨(k, got), ⟨⟨by dsimp only; omega, down1_miss hD (fun e => hf e.1)⟩, by dsimp only; omega⟩, SubS.weak ?_⟩⟩
          · simp only [go_sem, hG, hP, Nat.reduceEqDiff, ↓reduceIte, reduceCtorEq, Nat.reduceAdd, Nat.reduceSub, Nat.reduceMul, Nat.reduceLT, Nat.reduceLeDiff, Int.reduceAdd, Int.reduceSub, Int.reduceMul, Int.reduceLT, Int.reduceLE, Int.reduceEq, Int.reduceNeg, Int.reduceNe, Int.reduceGE, Int.reduceGT, Nat.reduceBEq, Int.reduceToNat]
            all_goals simp
          · simp only [go_sem, hG, hP, Nat.reduceEqDiff, ↓reduceIte, reduceCtorEq, Nat.reduceAdd, Nat.reduceSub, Nat.reduceMul, Nat.reduceLT, Nat.reduceLeDiff, Int.reduceAdd, Int.reduceSub, Int.reduceMul, Int.reduceLT, Int.reduceLE, Int.reduceEq, Int.reduceNeg, Int.reduceNe, Int.reduceGE, Int.reduceGT, Nat.reduceBEq, Int.reduceToNat]
            all_goals simp
          · simp only [go_sem, hG, hP, Nat.reduceEqDiff, ↓reduceIte, reduceCtorEq, Nat.reduceAdd, Nat.reduceSub, Nat.reduceMul, Nat.reduceLT, Nat.reduceLeDiff, Int.reduceAdd, Int.reduceSub, Int.reduceMul, Int.reduceLT, Int.reduceLE, Int.reduceEq, Int.reduceNeg, Int.reduceNe, Int.reduceGE, Int.reduceGT, Nat.reduceBEq, Int.reduceToNat]
            all_goals simp
  · exact h.elim
end Go.Proofs.YtfgefmkcmkihhaaE

/-! The code of a function, in the engine's words. -/
namespace Go.Proofs.YtfgefmkcmkihhaaE
open Go Go.RowKit
@[reducible] def ic4 : IC := (.seq (.ops [⟨some 2, .box (.tmp 0), none⟩, ⟨some 4, .mov (.const (.bool false)), none⟩]) (.seq (.ops [⟨some 5, .mov (.const (.int .i64 1048576)), none⟩]) (.seq (.ops [⟨some 16, .load 6 true (.tmp 2), none⟩, ⟨some 17, .mov (.tmp 5), none⟩, ⟨some 18, .call 8 [(.tmp 16), (.tmp 17)], none⟩, ⟨some 5, .mov (.tmp 18), none⟩]) (.seq (.seq (.ops [⟨some 19, .mov (.tmp 5), none⟩, ⟨some 20, .bin .lss (.tmp 19) (.const (.int .i64 0)), none⟩]) (.cond (.tmp 20) (.seq (.ops [⟨some 4, .mov (.const (.bool true)), none⟩]) .ret) .skip)) (.seq (.ops [⟨some 22, .load 6 true (.tmp 2), none⟩, ⟨some 23, .call 10 [(.tmp 22)], none⟩, ⟨some 24, .mov (.tmp 1), none⟩, ⟨some 25, .call 15 [(.tmp 23), (.tmp 24)], none⟩, ⟨some 21, .mov (.tmp 25), none⟩, ⟨some 26, .ext (.tmp 21) 0, none⟩, ⟨some 27, .ext (.tmp 21) 1, none⟩, ⟨some 6, .new [(.slice none 0 0), (.slice none 0 0), (.int .i64 0), (.int .i64 0), (.slice none 0 0), (.slice none 0 0)], none⟩, ⟨none, .store 6 (.tmp 6) (.tmp 26), none⟩, ⟨some 7, .mov (.tmp 27), none⟩]) (.seq (.ops [⟨some 28, .load 6 true (.tmp 2), none⟩, ⟨some 29, .call 10 [(.tmp 28)], none⟩, ⟨some 8, .new [(.slice none 0 0), (.slice none 0 0), (.int .i64 0), (.int .i64 0), (.slice none 0 0), (.slice none 0 0)], none⟩, ⟨none, .store 6 (.tmp 8) (.tmp 29), none⟩]) (.seq (.ops [⟨some 31, .load 6 true (.tmp 8), none⟩, ⟨some 32, .mov (.tmp 1), none⟩, ⟨some 33, .call 16 [(.tmp 31), (.tmp 32)], none⟩, ⟨some 30, .mov (.tmp 33), none⟩, ⟨some 34, .ext (.tmp 30) 0, none⟩, ⟨some 35, .ext (.tmp 30) 1, none⟩, ⟨some 9, .new [(.slice none 0 0), (.slice none 0 0), (.int .i64 0), (.int .i64 0), (.slice none 0 0), (.slice none 0 0)], none⟩, ⟨none, .store 6 (.tmp 9) (.tmp 34), none⟩, ⟨some 10, .mov (.tmp 35), none⟩]) (.seq (.seq (.ops [⟨some 36, .load 6 true (.tmp 9), none⟩, ⟨some 37, .load 6 true (.tmp 6), none⟩, ⟨some 38, .call 12 [(.tmp 36), (.tmp 37)], none⟩, ⟨some 39, .una .not (.tmp 38), none⟩, ⟨some 40, .mov (.tmp 39), none⟩, ⟨some 41, .mov (.tmp 10), some (40, false)⟩, ⟨some 42, .mov (.tmp 7), some (40, false)⟩, ⟨some 43, .bin .neq (.tmp 41) (.tmp 42), some (40, false)⟩, ⟨some 44, .pick (.tmp 40) (.const (.bool true)) (.tmp 43), none⟩]) (.cond (.tmp 44) (.seq (.ops [⟨some 4, .mov (.const (.bool false)), none⟩]) .ret) .skip)) (.seq (.seq (.draw [⟨some 45, .load 6 true (.tmp 8), none⟩, ⟨some 46, .load 6 true (.tmp 2), none⟩, ⟨some 47, .call 10 [(.tmp 46)], none⟩, ⟨some 48, .call 12 [(.tmp 45), (.tmp 47)], none⟩, ⟨some 49, .una .not (.tmp 48), none⟩] (.held ⟨some 45, .load 6 true (.tmp 8), none⟩ (.held ⟨some 46, .load 6 true (.tmp 2), none⟩ (.alt ⟨some 47, .call 10 [(.tmp 46)], none⟩ (.alt ⟨some 48, .call 12 [(.tmp 45), (.tmp 47)], none⟩ (.held ⟨some 49, .una .not (.tmp 48), none⟩ .done) .stop) .stop)))) (.cond (.tmp 49) (.seq (.ops [⟨some 4, .mov (.const (.bool false)), none⟩]) .ret) .skip)) (.seq (.ops [⟨some 11, .mov (.const (.int .i64 1)), none⟩]) (.seq (.ops [⟨some 50, .load 6 true (.tmp 8), none⟩, ⟨some 51, .mov (.tmp 11), none⟩, ⟨some 52, .call 13 [(.tmp 50), (.tmp 51)], none⟩, ⟨some 11, .mov (.tmp 52), none⟩]) (.seq (.seq (.ops [⟨some 53, .mov (.tmp 11), none⟩, ⟨some 54, .bin .lss (.tmp 53) (.const (.int .i64 0)), none⟩, ⟨some 55, .mov (.tmp 54), none⟩, ⟨some 56, .load 6 true (.tmp 9), some (55, false)⟩, ⟨some 57, .load 6 true (.tmp 6), some (55, false)⟩, ⟨some 58, .call 12 [(.tmp 56), (.tmp 57)], some (55, false)⟩, ⟨some 59, .una .not (.tmp 58), some (55, false)⟩, ⟨some 60, .pick (.tmp 55) (.const (.bool true)) (.tmp 59), none⟩, ⟨some 61, .mov (.tmp 60), none⟩, ⟨some 62, .mov (.tmp 10), some (61, false)⟩, ⟨some 63, .mov (.tmp 7), some (61, false)⟩, ⟨some 64, .bin .neq (.tmp 62) (.tmp 63), some (61, false)⟩, ⟨some 65, .pick (.tmp 61) (.const (.bool true)) (.tmp 64), none⟩]) (.cond (.tmp 65) (.seq (.ops [⟨some 4, .mov (.const (.bool false)), none⟩]) .ret) .skip)) (.seq (.ops [⟨some 12, .mov (.const (.int .i64 1)), none⟩]) (.seq (.ops [⟨some 66, .load 6 true (.tmp 9), none⟩, ⟨some 67, .mov (.tmp 12), none⟩, ⟨some 68, .call 13 [(.tmp 66), (.tmp 67)], none⟩, ⟨some 12, .mov (.tmp 68), none⟩]) (.seq (.ops [⟨some 13, .mov (.const (.int .i64 1)), none⟩]) (.seq (.ops [⟨some 69, .load 6 true (.tmp 9), none⟩, ⟨some 70, .mov (.tmp 13), none⟩, ⟨some 71, .call 14 [(.tmp 69), (.tmp 70)], none⟩, ⟨some 13, .mov (.tmp 71), none⟩]) (.seq (.seq (.ops [⟨some 72, .mov (.tmp 13), none⟩, ⟨some 73, .bin .lss (.tmp 72) (.const (.int .i64 0)), none⟩]) (.cond (.tmp 73) (.seq (.ops [⟨some 4, .mov (.const (.bool false)), none⟩]) .ret) .skip)) (.seq (.seq (.ops [⟨some 74, .mov (.tmp 13), none⟩, ⟨some 75, .mov (.tmp 12), none⟩, ⟨some 76, .bin .neq (.tmp 74) (.tmp 75), none⟩]) (.cond (.tmp 76) (.seq (.ops [⟨some 4, .mov (.const (.bool false)), none⟩]) .ret) .skip)) (.seq (.ops [⟨some 78, .load 6 true (.tmp 2), none⟩, ⟨some 79, .call 10 [(.tmp 78)], none⟩, ⟨some 80, .mov (.tmp 1), none⟩, ⟨some 81, .call 16 [(.tmp 79), (.tmp 80)], none⟩, ⟨some 77, .mov (.tmp 81), none⟩, ⟨some 82, .ext (.tmp 77) 0, none⟩, ⟨some 83, .ext (.tmp 77) 1, none⟩, ⟨some 14, .new [(.slice none 0 0), (.slice none 0 0), (.int .i64 0), (.int .i64 0), (.slice none 0 0), (.slice none 0 0)], none⟩, ⟨none, .store 6 (.tmp 14) (.tmp 82), none⟩, ⟨some 15, .mov (.tmp 83), none⟩]) (.seq (.seq (.ops [⟨some 84, .load 6 true (.tmp 14), none⟩, ⟨some 85, .load 6 true (.tmp 6), none⟩, ⟨some 86, .call 12 [(.tmp 84), (.tmp 85)], none⟩, ⟨some 87, .una .not (.tmp 86), none⟩, ⟨some 88, .mov (.tmp 87), none⟩, ⟨some 89, .mov (.tmp 15), some (88, false)⟩, ⟨some 90, .mov (.tmp 7), some (88, false)⟩, ⟨some 91, .bin .neq (.tmp 89) (.tmp 90), some (88, false)⟩, ⟨some 92, .pick (.tmp 88) (.const (.bool true)) (.tmp 91), none⟩]) (.cond (.tmp 92) (.seq (.ops [⟨some 4, .mov (.const (.bool false)), none⟩]) .ret) .skip)) (.seq (.ops [⟨some 13, .mov (.const (.int .i64 1)), none⟩]) (.seq (.ops [⟨some 93, .load 6 true (.tmp 9), none⟩, ⟨some 94, .mov (.tmp 13), none⟩, ⟨some 95, .call 14 [(.tmp 93), (.tmp 94)], none⟩, ⟨some 13, .mov (.tmp 95), none⟩]) (.seq (.seq (.ops [⟨some 96, .mov (.tmp 13), none⟩, ⟨some 97, .bin .lss (.tmp 96) (.const (.int .i64 0)), none⟩]) (.cond (.tmp 97) (.seq (.ops [⟨some 4, .mov (.const (.bool false)), none⟩]) .ret) .skip)) (.seq (.seq (.ops [⟨some 98, .mov (.tmp 13), none⟩, ⟨some 99, .mov (.tmp 12), none⟩, ⟨some 100, .bin .neq (.tmp 98) (.tmp 99), none⟩]) (.cond (.tmp 100) (.seq (.ops [⟨some 4, .mov (.const (.bool false)), none⟩]) .ret) .skip)) (.seq (.ops [⟨some 4, .mov (.const (.bool true)), none⟩]) .ret)))))))))))))))))))))))))
@[reducible] def rv4 : List RV := [.tmp 4]
theorem low4 : lowC Try.prog tau Try.f4.ntmps (Try.f4.body.getD .skip) = some (erase ic4) := by kernel_rfl
theorem res4 : lowR Try.prog Try.f4.results.toList = some rv4 := by kernel_rfl
theorem bod4 : Try.f4.body = some (Try.f4.body.getD .skip) := by kernel_rfl
theorem cal4 : callable Try.prog 4 = true := by kernel_rfl

end Go.Proofs.YtfgefmkcmkihhaaE

/-! Seize of the reference, and its law. -/
namespace Go.Proofs.YtfgefmkcmkihhaaE
open Go Go.RowKit
set_option linter.unusedSimpArgs false
set_option linter.unusedVariables false
set_option maxRecDepth 20000

theorem valid15 : Valid Try.prog 15 spSeize := by
  refine validI (Γ := lk [(29, spToTr), (24, spTrOk), (30, spIn), (31, spPut), (45, spOwner)]) Try.func15 bod15 low15 res15 (good_of ⟨⟨cal29, valid29⟩, ⟨cal24, valid24⟩, ⟨cal30, valid30⟩, ⟨cal31, valid31⟩, ⟨cal45, valid45⟩, trivial⟩) ?_
  intro E args objs K h hE hG hP
  simp only [spSeize] at h
  split at h
  · refine ⟨by simp [Try.ntmps15], ?_⟩
    rename_i c0 c1 x y q0 q1 side
    obtain ⟨⟨b1, b2, b3, b4⟩, h⟩ := h
    rcases side_cases side with hs | hs | hs
    · simp only [go_sem, hG, hP, Nat.reduceEqDiff, ↓reduceIte, reduceCtorEq, Nat.reduceAdd, Nat.reduceSub, Nat.reduceMul, Nat.reduceLT, Nat.reduceLeDiff, Int.reduceAdd, Int.reduceSub, Int.reduceMul, Int.reduceLT, Int.reduceLE, Int.reduceEq, Int.reduceNeg, Int.reduceNe, Int.reduceGE, Int.reduceGT, Nat.reduceBEq, Int.reduceToNat,  spToTr_f, spToTr_t, spTrOk_f, spTrOk_t, spIn_f, spIn_t, hs]
      repeat (refine And.intro (by first | omega | (simp; done) | (simp; omega) | (unfold appRoom; omega)) ?_)
      have no : ¬ seizeOk ⟨c0, c1, x, y, q0, q1⟩ side := fun e => by have := e.2.1; rw [hs] at this; exact this
      rw [seize_no no] at h
      refine ⟨fun hT => ⟨_, _, _, ?_, h⟩, fun hT => ⟨_, _, _, ?_, h⟩⟩
      · simp only [trA_eq, trL_eq]
        simp only [go_sem, hG, hP, Nat.reduceEqDiff, ↓reduceIte, reduceCtorEq, Nat.reduceAdd, Nat.reduceSub, Nat.reduceMul, Nat.reduceLT, Nat.reduceLeDiff, Int.reduceAdd, Int.reduceSub, Int.reduceMul, Int.reduceLT, Int.reduceLE, Int.reduceEq, Int.reduceNeg, Int.reduceNe, Int.reduceGE, Int.reduceGT, Nat.reduceBEq, Int.reduceToNat]
        all_goals simp
      · simp only [trA_eq, trL_eq]
        simp only [go_sem, hG, hP, Nat.reduceEqDiff, ↓reduceIte, reduceCtorEq, Nat.reduceAdd, Nat.reduceSub, Nat.reduceMul, Nat.reduceLT, Nat.reduceLeDiff, Int.reduceAdd, Int.reduceSub, Int.reduceMul, Int.reduceLT, Int.reduceLE, Int.reduceEq, Int.reduceNeg, Int.reduceNe, Int.reduceGE, Int.reduceGT, Nat.reduceBEq, Int.reduceToNat]
        all_goals simp
    · subst hs
      simp only [go_sem, hG, hP, Nat.reduceEqDiff, ↓reduceIte, reduceCtorEq, Nat.reduceAdd, Nat.reduceSub, Nat.reduceMul, Nat.reduceLT, Nat.reduceLeDiff, Int.reduceAdd, Int.reduceSub, Int.reduceMul, Int.reduceLT, Int.reduceLE, Int.reduceEq, Int.reduceNeg, Int.reduceNe, Int.reduceGE, Int.reduceGT, Nat.reduceBEq, Int.reduceToNat,  spToTr_f, spToTr_t, spTrOk_f, spTrOk_t, spIn_f, spIn_t]
      (try simp (disch := omega) only [wrap_id])
      repeat (refine And.intro (by first | omega | (simp; done) | (simp; omega) | (unfold appRoom; omega)) ?_)
      refine ⟨fun hT => ?_, fun hT => ?_⟩
      rotate_left
      · rw [seize_no (t := ⟨c0, c1, x, y, q0, q1⟩) (s := 0) (fun e => by rw [e.1] at hT; cases hT)] at h
        refine ⟨_, _, _, ?_, h⟩
        simp only [trA_eq, trL_eq]
        simp only [go_sem, hG, hP, Nat.reduceEqDiff, ↓reduceIte, reduceCtorEq, Nat.reduceAdd, Nat.reduceSub, Nat.reduceMul, Nat.reduceLT, Nat.reduceLeDiff, Int.reduceAdd, Int.reduceSub, Int.reduceMul, Int.reduceLT, Int.reduceLE, Int.reduceEq, Int.reduceNeg, Int.reduceNe, Int.reduceGE, Int.reduceGT, Nat.reduceBEq, Int.reduceToNat]
        all_goals simp
      have hL : c0.length = c1.length ∧ 1 ≤ c0.length ∧ c0.length ≤ 24 := trOk_head hT
      refine loopI hE (fun k : Nat => ⟨[(1, .v (.int .i64 0)), (2, .ptr 0 0), (4, .ptr 1 0), (6, .v (.int .i64 (ownF c0 0 k))), (7, .v (.int .i64 (othF c0 0 k))), (8, .v (.int .i64 k))], [(0, .box [.sub 2 1 0 c0.length, .sub 3 1 0 c1.length, .v (.int .i64 x), .v (.int .i64 y), .sub 4 2 0 q0.length, .sub 5 2 0 q1.length]), (1, .box [.v (.slice none 0 0), .v (.slice none 0 0), .v (.int .i64 0), .v (.int .i64 0), .v (.slice none 0 0), .v (.slice none 0 0)]), (2, .row .int c0), (3, .row .int c1), (4, .row .note q0), (5, .row .note q1)], 6, Try.f15.ntmps⟩) (fun k => k ≤ c0.length) (fun k => c0.length - k) ⟨0, Nat.zero_le _, SubS.weak ?_⟩ ?_
      · simp only [go_sem, hG, hP, Nat.reduceEqDiff, ↓reduceIte, reduceCtorEq, Nat.reduceAdd, Nat.reduceSub, Nat.reduceMul, Nat.reduceLT, Nat.reduceLeDiff, Int.reduceAdd, Int.reduceSub, Int.reduceMul, Int.reduceLT, Int.reduceLE, Int.reduceEq, Int.reduceNeg, Int.reduceNe, Int.reduceGE, Int.reduceGT, Nat.reduceBEq, Int.reduceToNat,  ownF, othF]
        all_goals simp
      · intro k hk
        by_cases hlt : (k : Int) < c0.length
        · by_cases hf : c0.getD k 0 = 0
          · by_cases ho : (k : Int).tmod 2 = 0
            · by_cases hn : ownF c0 0 k < 0
              · have e1 : ownF c0 0 (k + 1) = k := if_pos ⟨hn, hf, ho⟩
                have e2 : othF c0 0 (k + 1) = othF c0 0 k := if_neg (fun e => e.2 ho)
                simp only [go_sem, hG, hP, Nat.reduceEqDiff, ↓reduceIte, reduceCtorEq, Nat.reduceAdd, Nat.reduceSub, Nat.reduceMul, Nat.reduceLT, Nat.reduceLeDiff, Int.reduceAdd, Int.reduceSub, Int.reduceMul, Int.reduceLT, Int.reduceLE, Int.reduceEq, Int.reduceNeg, Int.reduceNe, Int.reduceGE, Int.reduceGT, Nat.reduceBEq, Int.reduceToNat,  spOwner_f, spOwner_t, hlt, hf, ho, hn]
                (try simp (disch := omega) only [wrap_id])
                repeat (refine And.intro (by first | omega | (simp; done) | (simp; omega) | (unfold appRoom; omega)) ?_)
                refine ⟨k + 1, ⟨by omega, by omega⟩, SubS.weak ?_⟩
                simp only [go_sem, hG, hP, Nat.reduceEqDiff, ↓reduceIte, reduceCtorEq, Nat.reduceAdd, Nat.reduceSub, Nat.reduceMul, Nat.reduceLT, Nat.reduceLeDiff, Int.reduceAdd, Int.reduceSub, Int.reduceMul, Int.reduceLT, Int.reduceLE, Int.reduceEq, Int.reduceNeg, Int.reduceNe, Int.reduceGE, Int.reduceGT, Nat.reduceBEq, Int.reduceToNat,  e1, e2]
                all_goals simp
              · have e1 : ownF c0 0 (k + 1) = ownF c0 0 k := if_neg (fun e => hn e.1)
                have e2 : othF c0 0 (k + 1) = othF c0 0 k := if_neg (fun e => e.2 ho)
                simp only [go_sem, hG, hP, Nat.reduceEqDiff, ↓reduceIte, reduceCtorEq, Nat.reduceAdd, Nat.reduceSub, Nat.reduceMul, Nat.reduceLT, Nat.reduceLeDiff, Int.reduceAdd, Int.reduceSub, Int.reduceMul, Int.reduceLT, Int.reduceLE, Int.reduceEq, Int.reduceNeg, Int.reduceNe, Int.reduceGE, Int.reduceGT, Nat.reduceBEq, Int.reduceToNat,  spOwner_f, spOwner_t, hlt, hf, ho, hn]
                (try simp (disch := omega) only [wrap_id])
                repeat (refine And.intro (by first | omega | (simp; done) | (simp; omega) | (unfold appRoom; omega)) ?_)
                refine ⟨k + 1, ⟨by omega, by omega⟩, SubS.weak ?_⟩
                simp only [go_sem, hG, hP, Nat.reduceEqDiff, ↓reduceIte, reduceCtorEq, Nat.reduceAdd, Nat.reduceSub, Nat.reduceMul, Nat.reduceLT, Nat.reduceLeDiff, Int.reduceAdd, Int.reduceSub, Int.reduceMul, Int.reduceLT, Int.reduceLE, Int.reduceEq, Int.reduceNeg, Int.reduceNe, Int.reduceGE, Int.reduceGT, Nat.reduceBEq, Int.reduceToNat,  e1, e2]
                all_goals simp
            · by_cases hn : ownF c0 0 k < 0
              · have e1 : ownF c0 0 (k + 1) = ownF c0 0 k := if_neg (fun e => ho e.2.2)
                have e2 : othF c0 0 (k + 1) = k := if_pos ⟨hf, ho⟩
                simp only [go_sem, hG, hP, Nat.reduceEqDiff, ↓reduceIte, reduceCtorEq, Nat.reduceAdd, Nat.reduceSub, Nat.reduceMul, Nat.reduceLT, Nat.reduceLeDiff, Int.reduceAdd, Int.reduceSub, Int.reduceMul, Int.reduceLT, Int.reduceLE, Int.reduceEq, Int.reduceNeg, Int.reduceNe, Int.reduceGE, Int.reduceGT, Nat.reduceBEq, Int.reduceToNat,  spOwner_f, spOwner_t, hlt, hf, ho, hn]
                (try simp (disch := omega) only [wrap_id])
                repeat (refine And.intro (by first | omega | (simp; done) | (simp; omega) | (unfold appRoom; omega)) ?_)
                refine ⟨k + 1, ⟨by omega, by omega⟩, SubS.weak ?_⟩
                simp only [go_sem, hG, hP, Nat.reduceEqDiff, ↓reduceIte, reduceCtorEq, Nat.reduceAdd, Nat.reduceSub, Nat.reduceMul, Nat.reduceLT, Nat.reduceLeDiff, Int.reduceAdd, Int.reduceSub, Int.reduceMul, Int.reduceLT, Int.reduceLE, Int.reduceEq, Int.reduceNeg, Int.reduceNe, Int.reduceGE, Int.reduceGT, Nat.reduceBEq, Int.reduceToNat,  e1, e2]
                all_goals simp
              · have e1 : ownF c0 0 (k + 1) = ownF c0 0 k := if_neg (fun e => ho e.2.2)
                have e2 : othF c0 0 (k + 1) = k := if_pos ⟨hf, ho⟩
                simp only [go_sem, hG, hP, Nat.reduceEqDiff, ↓reduceIte, reduceCtorEq, Nat.reduceAdd, Nat.reduceSub, Nat.reduceMul, Nat.reduceLT, Nat.reduceLeDiff, Int.reduceAdd, Int.reduceSub, Int.reduceMul, Int.reduceLT, Int.reduceLE, Int.reduceEq, Int.reduceNeg, Int.reduceNe, Int.reduceGE, Int.reduceGT, Nat.reduceBEq, Int.reduceToNat,  spOwner_f, spOwner_t, hlt, hf, ho, hn]
                (try simp (disch := omega) only [wrap_id])
                repeat (refine And.intro (by first | omega | (simp; done) | (simp; omega) | (unfold appRoom; omega)) ?_)
                refine ⟨k + 1, ⟨by omega, by omega⟩, SubS.weak ?_⟩
                simp only [go_sem, hG, hP, Nat.reduceEqDiff, ↓reduceIte, reduceCtorEq, Nat.reduceAdd, Nat.reduceSub, Nat.reduceMul, Nat.reduceLT, Nat.reduceLeDiff, Int.reduceAdd, Int.reduceSub, Int.reduceMul, Int.reduceLT, Int.reduceLE, Int.reduceEq, Int.reduceNeg, Int.reduceNe, Int.reduceGE, Int.reduceGT, Nat.reduceBEq, Int.reduceToNat,  e1, e2]
                all_goals simp
          · have e1 : ownF c0 0 (k + 1) = ownF c0 0 k := if_neg (fun e => hf e.2.1)
            have e2 : othF c0 0 (k + 1) = othF c0 0 k := if_neg (fun e => hf e.1)
            have ho : True := trivial
            have hn : True := trivial
            simp only [go_sem, hG, hP, Nat.reduceEqDiff, ↓reduceIte, reduceCtorEq, Nat.reduceAdd, Nat.reduceSub, Nat.reduceMul, Nat.reduceLT, Nat.reduceLeDiff, Int.reduceAdd, Int.reduceSub, Int.reduceMul, Int.reduceLT, Int.reduceLE, Int.reduceEq, Int.reduceNeg, Int.reduceNe, Int.reduceGE, Int.reduceGT, Nat.reduceBEq, Int.reduceToNat,  spOwner_f, spOwner_t, hlt, hf, ho, hn]
            (try simp (disch := omega) only [wrap_id])
            repeat (refine And.intro (by first | omega | (simp; done) | (simp; omega) | (unfold appRoom; omega)) ?_)
            refine ⟨k + 1, ⟨by omega, by omega⟩, SubS.weak ?_⟩
            simp only [go_sem, hG, hP, Nat.reduceEqDiff, ↓reduceIte, reduceCtorEq, Nat.reduceAdd, Nat.reduceSub, Nat.reduceMul, Nat.reduceLT, Nat.reduceLeDiff, Int.reduceAdd, Int.reduceSub, Int.reduceMul, Int.reduceLT, Int.reduceLE, Int.reduceEq, Int.reduceNeg, Int.reduceNe, Int.reduceGE, Int.reduceGT, Nat.reduceBEq, Int.reduceToNat,  e1, e2]
            all_goals simp
        · have hk' : k = c0.length := by omega
          subst hk'
          by_cases hp : pick c0 0 < 0
          · have hm : ownF c0 0 c0.length < 0 := by unfold pick at hp; split at hp <;> omega
            have hm2 : othF c0 0 c0.length < 0 := by unfold pick at hp; split at hp <;> omega
            simp only [go_sem, hG, hP, Nat.reduceEqDiff, ↓reduceIte, reduceCtorEq, Nat.reduceAdd, Nat.reduceSub, Nat.reduceMul, Nat.reduceLT, Nat.reduceLeDiff, Int.reduceAdd, Int.reduceSub, Int.reduceMul, Int.reduceLT, Int.reduceLE, Int.reduceEq, Int.reduceNeg, Int.reduceNe, Int.reduceGE, Int.reduceGT, Nat.reduceBEq, Int.reduceToNat,  hlt, hm, hm2]
            rw [seize_no (t := ⟨c0, c1, x, y, q0, q1⟩) (s := 0) (fun e => by have := e.2.2.2; simp only [c_0] at this; omega)] at h
            refine ⟨_, _, _, ?_, h⟩
            simp only [trA_eq, trL_eq]
            simp only [go_sem, hG, hP, Nat.reduceEqDiff, ↓reduceIte, reduceCtorEq, Nat.reduceAdd, Nat.reduceSub, Nat.reduceMul, Nat.reduceLT, Nat.reduceLeDiff, Int.reduceAdd, Int.reduceSub, Int.reduceMul, Int.reduceLT, Int.reduceLE, Int.reduceEq, Int.reduceNeg, Int.reduceNe, Int.reduceGE, Int.reduceGT, Nat.reduceBEq, Int.reduceToNat]
            all_goals simp
          · have hb : pick c0 0 < c0.length := by rcases pick_ch c0 0 with e | ⟨i, hi, e⟩ <;> omega
            by_cases hm : ownF c0 0 c0.length < 0
            · have hpe : pick c0 0 = othF c0 0 c0.length := if_pos hm
              have hm2 : ¬ othF c0 0 c0.length < 0 := by omega
              simp only [go_sem, hG, hP, Nat.reduceEqDiff, ↓reduceIte, reduceCtorEq, Nat.reduceAdd, Nat.reduceSub, Nat.reduceMul, Nat.reduceLT, Nat.reduceLeDiff, Int.reduceAdd, Int.reduceSub, Int.reduceMul, Int.reduceLT, Int.reduceLE, Int.reduceEq, Int.reduceNeg, Int.reduceNe, Int.reduceGE, Int.reduceGT, Nat.reduceBEq, Int.reduceToNat,  spToTr, spPut, takeA6_eq, hlt, hm, hp, ← hpe]
              repeat (refine And.intro (by first | omega | (simp; done) | (simp; omega) | (unfold appRoom; omega)) ?_)
              refine ⟨fun hq => ?_, fun hq => ?_⟩
              · rw [seize_no (t := ⟨c0, c1, x, y, q0, q1⟩) (s := 0) (fun e => e.2.2.1 (congrArg (Nat.cast (R := Int)) hq))] at h
                refine ⟨_, _, _, ?_, h⟩
                simp only [trA_eq, trL_eq]
                simp only [go_sem, hG, hP, Nat.reduceEqDiff, ↓reduceIte, reduceCtorEq, Nat.reduceAdd, Nat.reduceSub, Nat.reduceMul, Nat.reduceLT, Nat.reduceLeDiff, Int.reduceAdd, Int.reduceSub, Int.reduceMul, Int.reduceLT, Int.reduceLE, Int.reduceEq, Int.reduceNeg, Int.reduceNe, Int.reduceGE, Int.reduceGT, Nat.reduceBEq, Int.reduceToNat]
                all_goals simp
              · repeat (refine And.intro (by first | omega | (simp; done) | (simp; omega) | (unfold appRoom; omega)) ?_)
                rw [seize_yes (t := ⟨c0, c1, x, y, q0, q1⟩) (s := 0) ⟨hT, by omega, fun e => hq (Int.ofNat.inj e), by simp only [c_0]; omega⟩] at h
                refine ⟨_, _, _, ?_, h⟩
                simp only [c_0, show (1 : Int) - 0 = 1 from rfl, q_1, setC_0, setQ_1, trA_eq, trL_eq]
                simp only [go_sem, hG, hP, Nat.reduceEqDiff, ↓reduceIte, reduceCtorEq, Nat.reduceAdd, Nat.reduceSub, Nat.reduceMul, Nat.reduceLT, Nat.reduceLeDiff, Int.reduceAdd, Int.reduceSub, Int.reduceMul, Int.reduceLT, Int.reduceLE, Int.reduceEq, Int.reduceNeg, Int.reduceNe, Int.reduceGE, Int.reduceGT, Nat.reduceBEq, Int.reduceToNat]
                all_goals simp
            · have hpe : pick c0 0 = ownF c0 0 c0.length := if_neg hm
              simp only [go_sem, hG, hP, Nat.reduceEqDiff, ↓reduceIte, reduceCtorEq, Nat.reduceAdd, Nat.reduceSub, Nat.reduceMul, Nat.reduceLT, Nat.reduceLeDiff, Int.reduceAdd, Int.reduceSub, Int.reduceMul, Int.reduceLT, Int.reduceLE, Int.reduceEq, Int.reduceNeg, Int.reduceNe, Int.reduceGE, Int.reduceGT, Nat.reduceBEq, Int.reduceToNat,  spToTr, spPut, takeA6_eq, hlt, hp, ← hpe]
              repeat (refine And.intro (by first | omega | (simp; done) | (simp; omega) | (unfold appRoom; omega)) ?_)
              refine ⟨fun hq => ?_, fun hq => ?_⟩
              · rw [seize_no (t := ⟨c0, c1, x, y, q0, q1⟩) (s := 0) (fun e => e.2.2.1 (congrArg (Nat.cast (R := Int)) hq))] at h
                refine ⟨_, _, _, ?_, h⟩
                simp only [trA_eq, trL_eq]
                simp only [go_sem, hG, hP, Nat.reduceEqDiff, ↓reduceIte, reduceCtorEq, Nat.reduceAdd, Nat.reduceSub, Nat.reduceMul, Nat.reduceLT, Nat.reduceLeDiff, Int.reduceAdd, Int.reduceSub, Int.reduceMul, Int.reduceLT, Int.reduceLE, Int.reduceEq, Int.reduceNeg, Int.reduceNe, Int.reduceGE, Int.reduceGT, Nat.reduceBEq, Int.reduceToNat]
                all_goals simp
              · repeat (refine And.intro (by first | omega | (simp; done) | (simp; omega) | (unfold appRoom; omega)) ?_)
                rw [seize_yes (t := ⟨c0, c1, x, y, q0, q1⟩) (s := 0) ⟨hT, by omega, fun e => hq (Int.ofNat.inj e), by simp only [c_0]; omega⟩] at h
                refine ⟨_, _, _, ?_, h⟩
                simp only [c_0, show (1 : Int) - 0 = 1 from rfl, q_1, setC_0, setQ_1, trA_eq, trL_eq]
                simp only [go_sem, hG, hP, Nat.reduceEqDiff, ↓reduceIte, reduceCtorEq, Nat.reduceAdd, Nat.reduceSub, Nat.reduceMul, Nat.reduceLT, Nat.reduceLeDiff, Int.reduceAdd, Int.reduceSub, Int.reduceMul, Int.reduceLT, Int.reduceLE, Int.reduceEq, Int.reduceNeg, Int.reduceNe, Int.reduceGE, Int.reduceGT, Nat.reduceBEq, Int.reduceToNat]
                all_goals simp
    · subst hs
      simp only [go_sem, hG, hP, Nat.reduceEqDiff, ↓reduceIte, reduceCtorEq, Nat.reduceAdd, Nat.reduceSub, Nat.reduceMul, Nat.reduceLT, Nat.reduceLeDiff, Int.reduceAdd, Int.reduceSub, Int.reduceMul, Int.reduceLT, Int.reduceLE, Int.reduceEq, Int.reduceNeg, Int.reduceNe, Int.reduceGE, Int.reduceGT, Nat.reduceBEq, Int.reduceToNat,  spToTr_f, spToTr_t, spTrOk_f, spTrOk_t, spIn_f, spIn_t]
      (try simp (disch := omega) only [wrap_id])
      repeat (refine And.intro (by first | omega | (simp; done) | (simp; omega) | (unfold appRoom; omega)) ?_)
      refine ⟨fun hT => ?_, fun hT => ?_⟩
      rotate_left
      · rw [seize_no (t := ⟨c0, c1, x, y, q0, q1⟩) (s := 1) (fun e => by rw [e.1] at hT; cases hT)] at h
        refine ⟨_, _, _, ?_, h⟩
        simp only [trA_eq, trL_eq]
        simp only [go_sem, hG, hP, Nat.reduceEqDiff, ↓reduceIte, reduceCtorEq, Nat.reduceAdd, Nat.reduceSub, Nat.reduceMul, Nat.reduceLT, Nat.reduceLeDiff, Int.reduceAdd, Int.reduceSub, Int.reduceMul, Int.reduceLT, Int.reduceLE, Int.reduceEq, Int.reduceNeg, Int.reduceNe, Int.reduceGE, Int.reduceGT, Nat.reduceBEq, Int.reduceToNat]
        all_goals simp
      have hL : c0.length = c1.length ∧ 1 ≤ c0.length ∧ c0.length ≤ 24 := trOk_head hT
      refine loopI hE (fun k : Nat => ⟨[(1, .v (.int .i64 1)), (2, .ptr 0 0), (4, .ptr 1 0), (6, .v (.int .i64 (ownF c1 1 k))), (7, .v (.int .i64 (othF c1 1 k))), (8, .v (.int .i64 k))], [(0, .box [.sub 2 1 0 c0.length, .sub 3 1 0 c1.length, .v (.int .i64 x), .v (.int .i64 y), .sub 4 2 0 q0.length, .sub 5 2 0 q1.length]), (1, .box [.v (.slice none 0 0), .v (.slice none 0 0), .v (.int .i64 0), .v (.int .i64 0), .v (.slice none 0 0), .v (.slice none 0 0)]), (2, .row .int c0), (3, .row .int c1), (4, .row .note q0), (5, .row .note q1)], 6, Try.f15.ntmps⟩) (fun k => k ≤ c1.length) (fun k => c1.length - k) ⟨0, Nat.zero_le _, SubS.weak ?_⟩ ?_
      · simp only [go_sem, hG, hP, Nat.reduceEqDiff, ↓reduceIte, reduceCtorEq, Nat.reduceAdd, Nat.reduceSub, Nat.reduceMul, Nat.reduceLT, Nat.reduceLeDiff, Int.reduceAdd, Int.reduceSub, Int.reduceMul, Int.reduceLT, Int.reduceLE, Int.reduceEq, Int.reduceNeg, Int.reduceNe, Int.reduceGE, Int.reduceGT, Nat.reduceBEq, Int.reduceToNat,  ownF, othF]
        all_goals simp
      · intro k hk
        by_cases hlt : (k : Int) < c1.length
        · by_cases hf : c1.getD k 0 = 0
          · by_cases ho : (k : Int).tmod 2 = 1
            · by_cases hn : ownF c1 1 k < 0
              · have e1 : ownF c1 1 (k + 1) = k := if_pos ⟨hn, hf, ho⟩
                have e2 : othF c1 1 (k + 1) = othF c1 1 k := if_neg (fun e => e.2 ho)
                simp only [go_sem, hG, hP, Nat.reduceEqDiff, ↓reduceIte, reduceCtorEq, Nat.reduceAdd, Nat.reduceSub, Nat.reduceMul, Nat.reduceLT, Nat.reduceLeDiff, Int.reduceAdd, Int.reduceSub, Int.reduceMul, Int.reduceLT, Int.reduceLE, Int.reduceEq, Int.reduceNeg, Int.reduceNe, Int.reduceGE, Int.reduceGT, Nat.reduceBEq, Int.reduceToNat,  spOwner_f, spOwner_t, hlt, hf, ho, hn]
                (try simp (disch := omega) only [wrap_id])
                repeat (refine And.intro (by first | omega | (simp; done) | (simp; omega) | (unfold appRoom; omega)) ?_)
                refine ⟨k + 1, ⟨by omega, by omega⟩, SubS.weak ?_⟩
                simp only [go_sem, hG, hP, Nat.reduceEqDiff, ↓reduceIte, reduceCtorEq, Nat.reduceAdd, Nat.reduceSub, Nat.reduceMul, Nat.reduceLT, Nat.reduceLeDiff, Int.reduceAdd, Int.reduceSub, Int.reduceMul, Int.reduceLT, Int.reduceLE, Int.reduceEq, Int.reduceNeg, Int.reduceNe, Int.reduceGE, Int.reduceGT, Nat.reduceBEq, Int.reduceToNat,  e1, e2]
                all_goals simp
              · have e1 : ownF c1 1 (k + 1) = ownF c1 1 k := if_neg (fun e => hn e.1)
                have e2 : othF c1 1 (k + 1) = othF c1 1 k := if_neg (fun e => e.2 ho)
                simp only [go_sem, hG, hP, Nat.reduceEqDiff, ↓reduceIte, reduceCtorEq, Nat.reduceAdd, Nat.reduceSub, Nat.reduceMul, Nat.reduceLT, Nat.reduceLeDiff, Int.reduceAdd, Int.reduceSub, Int.reduceMul, Int.reduceLT, Int.reduceLE, Int.reduceEq, Int.reduceNeg, Int.reduceNe, Int.reduceGE, Int.reduceGT, Nat.reduceBEq, Int.reduceToNat,  spOwner_f, spOwner_t, hlt, hf, ho, hn]
                (try simp (disch := omega) only [wrap_id])
                repeat (refine And.intro (by first | omega | (simp; done) | (simp; omega) | (unfold appRoom; omega)) ?_)
                refine ⟨k + 1, ⟨by omega, by omega⟩, SubS.weak ?_⟩
                simp only [go_sem, hG, hP, Nat.reduceEqDiff, ↓reduceIte, reduceCtorEq, Nat.reduceAdd, Nat.reduceSub, Nat.reduceMul, Nat.reduceLT, Nat.reduceLeDiff, Int.reduceAdd, Int.reduceSub, Int.reduceMul, Int.reduceLT, Int.reduceLE, Int.reduceEq, Int.reduceNeg, Int.reduceNe, Int.reduceGE, Int.reduceGT, Nat.reduceBEq, Int.reduceToNat,  e1, e2]
                all_goals simp
            · by_cases hn : ownF c1 1 k < 0
              · have e1 : ownF c1 1 (k + 1) = ownF c1 1 k := if_neg (fun e => ho e.2.2)
                have e2 : othF c1 1 (k + 1) = k := if_pos ⟨hf, ho⟩
                simp only [go_sem, hG, hP, Nat.reduceEqDiff, ↓reduceIte, reduceCtorEq, Nat.reduceAdd, Nat.reduceSub, Nat.reduceMul, Nat.reduceLT, Nat.reduceLeDiff, Int.reduceAdd, Int.reduceSub, Int.reduceMul, Int.reduceLT, Int.reduceLE, Int.reduceEq, Int.reduceNeg, Int.reduceNe, Int.reduceGE, Int.reduceGT, Nat.reduceBEq, Int.reduceToNat,  spOwner_f, spOwner_t, hlt, hf, ho, hn]
                (try simp (disch := omega) only [wrap_id])
                repeat (refine And.intro (by first | omega | (simp; done) | (simp; omega) | (unfold appRoom; omega)) ?_)
                refine ⟨k + 1, ⟨by omega, by omega⟩, SubS.weak ?_⟩
                simp only [go_sem, hG, hP, Nat.reduceEqDiff, ↓reduceIte, reduceCtorEq, Nat.reduceAdd, Nat.reduceSub, Nat.reduceMul, Nat.reduceLT, Nat.reduceLeDiff, Int.reduceAdd, Int.reduceSub, Int.reduceMul, Int.reduceLT, Int.reduceLE, Int.reduceEq, Int.reduceNeg, Int.reduceNe, Int.reduceGE, Int.reduceGT, Nat.reduceBEq, Int.reduceToNat,  e1, e2]
                all_goals simp
              · have e1 : ownF c1 1 (k + 1) = ownF c1 1 k := if_neg (fun e => ho e.2.2)
                have e2 : othF c1 1 (k + 1) = k := if_pos ⟨hf, ho⟩
                simp only [go_sem, hG, hP, Nat.reduceEqDiff, ↓reduceIte, reduceCtorEq, Nat.reduceAdd, Nat.reduceSub, Nat.reduceMul, Nat.reduceLT, Nat.reduceLeDiff, Int.reduceAdd, Int.reduceSub, Int.reduceMul, Int.reduceLT, Int.reduceLE, Int.reduceEq, Int.reduceNeg, Int.reduceNe, Int.reduceGE, Int.reduceGT, Nat.reduceBEq, Int.reduceToNat,  spOwner_f, spOwner_t, hlt, hf, ho, hn]
                (try simp (disch := omega) only [wrap_id])
                repeat (refine And.intro (by first | omega | (simp; done) | (simp; omega) | (unfold appRoom; omega)) ?_)
                refine ⟨k + 1, ⟨by omega, by omega⟩, SubS.weak ?_⟩
                simp only [go_sem, hG, hP, Nat.reduceEqDiff, ↓reduceIte, reduceCtorEq, Nat.reduceAdd, Nat.reduceSub, Nat.reduceMul, Nat.reduceLT, Nat.reduceLeDiff, Int.reduceAdd, Int.reduceSub, Int.reduceMul, Int.reduceLT, Int.reduceLE, Int.reduceEq, Int.reduceNeg, Int.reduceNe, Int.reduceGE, Int.reduceGT, Nat.reduceBEq, Int.reduceToNat,  e1, e2]
                all_goals simp
          · have e1 : ownF c1 1 (k + 1) = ownF c1 1 k := if_neg (fun e => hf e.2.1)
            have e2 : othF c1 1 (k + 1) = othF c1 1 k := if_neg (fun e => hf e.1)
            have ho : True := trivial
            have hn : True := trivial
            simp only [go_sem, hG, hP, Nat.reduceEqDiff, ↓reduceIte, reduceCtorEq, Nat.reduceAdd, Nat.reduceSub, Nat.reduceMul, Nat.reduceLT, Nat.reduceLeDiff, Int.reduceAdd, Int.reduceSub, Int.reduceMul, Int.reduceLT, Int.reduceLE, Int.reduceEq, Int.reduceNeg, Int.reduceNe, Int.reduceGE, Int.reduceGT, Nat.reduceBEq, Int.reduceToNat,  spOwner_f, spOwner_t, hlt, hf, ho, hn]
            (try simp (disch := omega) only [wrap_id])
            repeat (refine And.intro (by first | omega | (simp; done) | (simp; omega) | (unfold appRoom; omega)) ?_)
            refine ⟨k + 1, ⟨by omega, by omega⟩, SubS.weak ?_⟩
            simp only [go_sem, hG, hP, Nat.reduceEqDiff, ↓reduceIte, reduceCtorEq, Nat.reduceAdd, Nat.reduceSub, Nat.reduceMul, Nat.reduceLT, Nat.reduceLeDiff, Int.reduceAdd, Int.reduceSub, Int.reduceMul, Int.reduceLT, Int.reduceLE, Int.reduceEq, Int.reduceNeg, Int.reduceNe, Int.reduceGE, Int.reduceGT, Nat.reduceBEq, Int.reduceToNat,  e1, e2]
            all_goals simp
        · have hk' : k = c1.length := by omega
          subst hk'
          by_cases hp : pick c1 1 < 0
          · have hm : ownF c1 1 c1.length < 0 := by unfold pick at hp; split at hp <;> omega
            have hm2 : othF c1 1 c1.length < 0 := by unfold pick at hp; split at hp <;> omega
            simp only [go_sem, hG, hP, Nat.reduceEqDiff, ↓reduceIte, reduceCtorEq, Nat.reduceAdd, Nat.reduceSub, Nat.reduceMul, Nat.reduceLT, Nat.reduceLeDiff, Int.reduceAdd, Int.reduceSub, Int.reduceMul, Int.reduceLT, Int.reduceLE, Int.reduceEq, Int.reduceNeg, Int.reduceNe, Int.reduceGE, Int.reduceGT, Nat.reduceBEq, Int.reduceToNat,  hlt, hm, hm2]
            rw [seize_no (t := ⟨c0, c1, x, y, q0, q1⟩) (s := 1) (fun e => by have := e.2.2.2; simp only [c_1] at this; omega)] at h
            refine ⟨_, _, _, ?_, h⟩
            simp only [trA_eq, trL_eq]
            simp only [go_sem, hG, hP, Nat.reduceEqDiff, ↓reduceIte, reduceCtorEq, Nat.reduceAdd, Nat.reduceSub, Nat.reduceMul, Nat.reduceLT, Nat.reduceLeDiff, Int.reduceAdd, Int.reduceSub, Int.reduceMul, Int.reduceLT, Int.reduceLE, Int.reduceEq, Int.reduceNeg, Int.reduceNe, Int.reduceGE, Int.reduceGT, Nat.reduceBEq, Int.reduceToNat]
            all_goals simp
          · have hb : pick c1 1 < c1.length := by rcases pick_ch c1 1 with e | ⟨i, hi, e⟩ <;> omega
            by_cases hm : ownF c1 1 c1.length < 0
            · have hpe : pick c1 1 = othF c1 1 c1.length := if_pos hm
              have hm2 : ¬ othF c1 1 c1.length < 0 := by omega
              simp only [go_sem, hG, hP, Nat.reduceEqDiff, ↓reduceIte, reduceCtorEq, Nat.reduceAdd, Nat.reduceSub, Nat.reduceMul, Nat.reduceLT, Nat.reduceLeDiff, Int.reduceAdd, Int.reduceSub, Int.reduceMul, Int.reduceLT, Int.reduceLE, Int.reduceEq, Int.reduceNeg, Int.reduceNe, Int.reduceGE, Int.reduceGT, Nat.reduceBEq, Int.reduceToNat,  spToTr, spPut, takeA6_eq, hlt, hm, hp, ← hpe]
              repeat (refine And.intro (by first | omega | (simp; done) | (simp; omega) | (unfold appRoom; omega)) ?_)
              refine ⟨fun hq => ?_, fun hq => ?_⟩
              · rw [seize_no (t := ⟨c0, c1, x, y, q0, q1⟩) (s := 1) (fun e => e.2.2.1 (congrArg (Nat.cast (R := Int)) hq))] at h
                refine ⟨_, _, _, ?_, h⟩
                simp only [trA_eq, trL_eq]
                simp only [go_sem, hG, hP, Nat.reduceEqDiff, ↓reduceIte, reduceCtorEq, Nat.reduceAdd, Nat.reduceSub, Nat.reduceMul, Nat.reduceLT, Nat.reduceLeDiff, Int.reduceAdd, Int.reduceSub, Int.reduceMul, Int.reduceLT, Int.reduceLE, Int.reduceEq, Int.reduceNeg, Int.reduceNe, Int.reduceGE, Int.reduceGT, Nat.reduceBEq, Int.reduceToNat]
                all_goals simp
              · repeat (refine And.intro (by first | omega | (simp; done) | (simp; omega) | (unfold appRoom; omega)) ?_)
                rw [seize_yes (t := ⟨c0, c1, x, y, q0, q1⟩) (s := 1) ⟨hT, by omega, fun e => hq (Int.ofNat.inj e), by simp only [c_1]; omega⟩] at h
                refine ⟨_, _, _, ?_, h⟩
                simp only [c_1, show (1 : Int) - 1 = 0 from rfl, q_0, setC_1, setQ_0, trA_eq, trL_eq]
                simp only [go_sem, hG, hP, Nat.reduceEqDiff, ↓reduceIte, reduceCtorEq, Nat.reduceAdd, Nat.reduceSub, Nat.reduceMul, Nat.reduceLT, Nat.reduceLeDiff, Int.reduceAdd, Int.reduceSub, Int.reduceMul, Int.reduceLT, Int.reduceLE, Int.reduceEq, Int.reduceNeg, Int.reduceNe, Int.reduceGE, Int.reduceGT, Nat.reduceBEq, Int.reduceToNat]
                all_goals simp
            · have hpe : pick c1 1 = ownF c1 1 c1.length := if_neg hm
              simp only [go_sem, hG, hP, Nat.reduceEqDiff, ↓reduceIte, reduceCtorEq, Nat.reduceAdd, Nat.reduceSub, Nat.reduceMul, Nat.reduceLT, Nat.reduceLeDiff, Int.reduceAdd, Int.reduceSub, Int.reduceMul, Int.reduceLT, Int.reduceLE, Int.reduceEq, Int.reduceNeg, Int.reduceNe, Int.reduceGE, Int.reduceGT, Nat.reduceBEq, Int.reduceToNat,  spToTr, spPut, takeA6_eq, hlt, hp, ← hpe]
              repeat (refine And.intro (by first | omega | (simp; done) | (simp; omega) | (unfold appRoom; omega)) ?_)
              refine ⟨fun hq => ?_, fun hq => ?_⟩
              · rw [seize_no (t := ⟨c0, c1, x, y, q0, q1⟩) (s := 1) (fun e => e.2.2.1 (congrArg (Nat.cast (R := Int)) hq))] at h
                refine ⟨_, _, _, ?_, h⟩
                simp only [trA_eq, trL_eq]
                simp only [go_sem, hG, hP, Nat.reduceEqDiff, ↓reduceIte, reduceCtorEq, Nat.reduceAdd, Nat.reduceSub, Nat.reduceMul, Nat.reduceLT, Nat.reduceLeDiff, Int.reduceAdd, Int.reduceSub, Int.reduceMul, Int.reduceLT, Int.reduceLE, Int.reduceEq, Int.reduceNeg, Int.reduceNe, Int.reduceGE, Int.reduceGT, Nat.reduceBEq, Int.reduceToNat]
                all_goals simp
              · repeat (refine And.intro (by first | omega | (simp; done) | (simp; omega) | (unfold appRoom; omega)) ?_)
                rw [seize_yes (t := ⟨c0, c1, x, y, q0, q1⟩) (s := 1) ⟨hT, by omega, fun e => hq (Int.ofNat.inj e), by simp only [c_1]; omega⟩] at h
                refine ⟨_, _, _, ?_, h⟩
                simp only [c_1, show (1 : Int) - 1 = 0 from rfl, q_0, setC_1, setQ_0, trA_eq, trL_eq]
                simp only [go_sem, hG, hP, Nat.reduceEqDiff, ↓reduceIte, reduceCtorEq, Nat.reduceAdd, Nat.reduceSub, Nat.reduceMul, Nat.reduceLT, Nat.reduceLeDiff, Int.reduceAdd, Int.reduceSub, Int.reduceMul, Int.reduceLT, Int.reduceLE, Int.reduceEq, Int.reduceNeg, Int.reduceNe, Int.reduceGE, Int.reduceGT, Nat.reduceBEq, Int.reduceToNat]
                all_goals simp
  · exact h.elim
end Go.Proofs.YtfgefmkcmkihhaaE

/-! The code of a function, in the engine's words. -/
namespace Go.Proofs.YtfgefmkcmkihhaaE
open Go Go.RowKit
@[reducible] def ic46 : IC := (.seq (.ops [⟨some 6, .mov (.const (.int .i64 0)), none⟩, ⟨some 7, .mov (.const (.int .i64 0)), none⟩, ⟨some 8, .mov (.const (.bool false)), none⟩]) (.seq (.seq (.ops [⟨some 9, .mov (.tmp 1), none⟩]) (.block 0 (.seq (.ops [⟨some 11, .bin .eql (.tmp 9) (.const (.int .i64 1)), none⟩, ⟨some 10, .mov (.tmp 11), none⟩]) (.cond (.tmp 10) (.seq (.block 1 (.seq (.ops [⟨some 13, .mov (.tmp 0), none⟩, ⟨some 14, .bin .eql (.tmp 13) (.const (.int .i64 0)), none⟩, ⟨some 12, .mov (.tmp 14), none⟩]) (.cond (.tmp 12) (.seq (.ops [⟨some 6, .mov (.const (.int .i64 3)), none⟩, ⟨some 7, .mov (.const (.int .i64 2)), none⟩, ⟨some 8, .mov (.const (.bool false)), none⟩]) .ret) (.seq (.ops [⟨some 16, .mov (.tmp 0), none⟩, ⟨some 17, .bin .eql (.tmp 16) (.const (.int .i64 1)), none⟩, ⟨some 18, .mov (.tmp 17), none⟩, ⟨some 19, .mov (.tmp 2), some (18, true)⟩, ⟨some 20, .una .not (.tmp 19), some (18, true)⟩, ⟨some 21, .pick (.tmp 18) (.tmp 20) (.const (.bool false)), none⟩, ⟨some 15, .mov (.tmp 21), none⟩]) (.cond (.tmp 15) (.seq (.ops [⟨some 6, .mov (.const (.int .i64 3)), none⟩, ⟨some 7, .mov (.const (.int .i64 2)), none⟩, ⟨some 8, .mov (.const (.bool true)), none⟩]) .ret) .skip))))) (.seq (.ops [⟨some 22, .mov (.tmp 0), none⟩, ⟨some 6, .mov (.tmp 22), none⟩, ⟨some 7, .mov (.const (.int .i64 3)), none⟩, ⟨some 8, .mov (.const (.bool false)), none⟩]) .ret)) (.seq (.ops [⟨some 24, .bin .eql (.tmp 9) (.const (.int .i64 2)), none⟩, ⟨some 23, .mov (.tmp 24), none⟩]) (.cond (.tmp 23) (.seq (.ops [⟨some 25, .mov (.tmp 0), none⟩, ⟨some 26, .bin .eql (.tmp 25) (.const (.int .i64 1)), none⟩]) (.cond (.tmp 26) (.seq (.ops [⟨some 6, .mov (.const (.int .i64 2)), none⟩, ⟨some 7, .mov (.const (.int .i64 0)), none⟩, ⟨some 8, .mov (.const (.bool false)), none⟩]) .ret) .skip)) (.seq (.ops [⟨some 28, .bin .eql (.tmp 9) (.const (.int .i64 3)), none⟩, ⟨some 27, .mov (.tmp 28), none⟩]) (.cond (.tmp 27) (.seq (.ops [⟨some 29, .mov (.tmp 0), none⟩, ⟨some 30, .bin .eql (.tmp 29) (.const (.int .i64 1)), none⟩]) (.cond (.tmp 30) (.seq (.ops [⟨some 6, .mov (.const (.int .i64 0)), none⟩, ⟨some 7, .mov (.const (.int .i64 0)), none⟩, ⟨some 8, .mov (.const (.bool true)), none⟩]) .ret) .skip)) (.seq (.ops [⟨some 32, .bin .eql (.tmp 9) (.const (.int .i64 4)), none⟩, ⟨some 31, .mov (.tmp 32), none⟩]) (.cond (.tmp 31) (.seq (.seq (.ops [⟨some 33, .mov (.tmp 0), none⟩, ⟨some 34, .bin .eql (.tmp 33) (.const (.int .i64 3)), none⟩]) (.cond (.tmp 34) (.seq (.ops [⟨some 6, .mov (.const (.int .i64 0)), none⟩, ⟨some 7, .mov (.const (.int .i64 5)), none⟩, ⟨some 8, .mov (.const (.bool false)), none⟩]) .ret) .skip)) (.seq (.ops [⟨some 35, .mov (.tmp 0), none⟩, ⟨some 6, .mov (.tmp 35), none⟩, ⟨some 7, .mov (.const (.int .i64 5)), none⟩, ⟨some 8, .mov (.const (.bool false)), none⟩]) .ret)) (.seq (.ops [⟨some 37, .bin .eql (.tmp 9) (.const (.int .i64 5)), none⟩, ⟨some 36, .mov (.tmp 37), none⟩]) (.cond (.tmp 36) (.seq (.ops [⟨some 38, .mov (.tmp 0), none⟩, ⟨some 39, .bin .eql (.tmp 38) (.const (.int .i64 4)), none⟩]) (.cond (.tmp 39) (.seq (.ops [⟨some 6, .mov (.const (.int .i64 0)), none⟩, ⟨some 7, .mov (.const (.int .i64 0)), none⟩, ⟨some 8, .mov (.const (.bool false)), none⟩]) .ret) .skip)) .skip)))))))))))) (.seq (.ops [⟨some 40, .mov (.tmp 0), none⟩, ⟨some 6, .mov (.tmp 40), none⟩, ⟨some 7, .mov (.const (.int .i64 0)), none⟩, ⟨some 8, .mov (.const (.bool false)), none⟩]) .ret)))
@[reducible] def rv46 : List RV := [.tmp 6, .tmp 7, .tmp 8]
theorem low46 : lowC Try.prog tau Try.f46.ntmps (Try.f46.body.getD .skip) = some (erase ic46) := by kernel_rfl
theorem res46 : lowR Try.prog Try.f46.results.toList = some rv46 := by kernel_rfl
theorem bod46 : Try.f46.body = some (Try.f46.body.getD .skip) := by kernel_rfl
theorem cal46 : callable Try.prog 46 = true := by kernel_rfl

end Go.Proofs.YtfgefmkcmkihhaaE

/-! The code of a function, in the engine's words. -/
namespace Go.Proofs.YtfgefmkcmkihhaaE
open Go Go.RowKit
@[reducible] def ic17 : IC := (.seq (.ops [⟨some 2, .box (.tmp 0), none⟩, ⟨some 4, .new [(.slice none 0 0), (.slice none 0 0), (.int .i64 0), (.int .i64 0), (.slice none 0 0), (.slice none 0 0)], none⟩, ⟨some 5, .mov (.const (.bool false)), none⟩]) (.seq (.ops [⟨some 12, .load 6 true (.tmp 2), none⟩, ⟨some 13, .call 29 [(.tmp 12)], none⟩, ⟨none, .store 6 (.tmp 2) (.tmp 13), none⟩]) (.seq (.seq (.ops [⟨some 14, .load 6 true (.tmp 2), none⟩, ⟨some 15, .call 24 [(.tmp 14)], none⟩, ⟨some 16, .una .not (.tmp 15), none⟩, ⟨some 17, .mov (.tmp 16), none⟩, ⟨some 18, .mov (.tmp 1), some (17, false)⟩, ⟨some 19, .call 30 [(.tmp 18), (.const (.int .i64 0)), (.const (.int .i64 1))], some (17, false)⟩, ⟨some 20, .una .not (.tmp 19), some (17, false)⟩, ⟨some 21, .pick (.tmp 17) (.const (.bool true)) (.tmp 20), none⟩, ⟨some 22, .mov (.tmp 21), none⟩, ⟨some 23, .mov (.tmp 1), some (22, false)⟩, ⟨some 24, .fadr 4 (.tmp 2), some (22, false)⟩, ⟨some 25, .iarr 1 2 (.tmp 24) (.tmp 23), some (22, false)⟩, ⟨some 26, .load 1 false (.tmp 25), some (22, false)⟩, ⟨some 27, .len (.tmp 26), some (22, false)⟩, ⟨some 28, .bin .eql (.tmp 27) (.const (.int .i64 0)), some (22, false)⟩, ⟨some 29, .pick (.tmp 22) (.const (.bool true)) (.tmp 28), none⟩]) (.cond (.tmp 29) (.seq (.ops [⟨some 30, .load 6 true (.tmp 2), none⟩, ⟨none, .store 6 (.tmp 4) (.tmp 30), none⟩, ⟨some 5, .mov (.const (.bool false)), none⟩]) .ret) .skip)) (.seq (.ops [⟨some 31, .load 6 true (.tmp 2), none⟩, ⟨some 32, .call 29 [(.tmp 31)], none⟩, ⟨some 6, .new [(.slice none 0 0), (.slice none 0 0), (.int .i64 0), (.int .i64 0), (.slice none 0 0), (.slice none 0 0)], none⟩, ⟨none, .store 6 (.tmp 6) (.tmp 32), none⟩]) (.seq (.ops [⟨some 33, .mov (.tmp 1), none⟩, ⟨some 34, .fadr 4 (.tmp 6), none⟩, ⟨some 35, .iarr 1 2 (.tmp 34) (.tmp 33), none⟩, ⟨some 36, .load 1 false (.tmp 35), none⟩, ⟨some 37, .iadr 2 (.tmp 36) (.const (.int .i64 0)), none⟩, ⟨some 38, .load 2 true (.tmp 37), none⟩, ⟨some 7, .new [(.int .i64 0), (.int .i64 0)], none⟩, ⟨none, .store 2 (.tmp 7) (.tmp 38), none⟩]) (.seq (.ops [⟨some 39, .mov (.tmp 1), none⟩, ⟨some 40, .mov (.tmp 1), none⟩, ⟨some 41, .fadr 4 (.tmp 6), none⟩, ⟨some 42, .iarr 1 2 (.tmp 41) (.tmp 40), none⟩, ⟨some 43, .load 1 false (.tmp 42), none⟩, ⟨some 44, .slc 2 (.tmp 43) (some (.const (.int .i64 1))) none, none⟩, ⟨some 45, .fadr 4 (.tmp 6), none⟩, ⟨some 46, .iarr 1 2 (.tmp 45) (.tmp 39), none⟩, ⟨none, .store 1 (.tmp 46) (.tmp 44), none⟩]) (.seq (.draw [⟨some 48, .mov (.tmp 1), none⟩, ⟨some 49, .fadr 0 (.tmp 6), none⟩, ⟨some 50, .iarr 1 2 (.tmp 49) (.tmp 48), none⟩, ⟨some 51, .load 1 false (.tmp 50), none⟩, ⟨some 52, .fadr 1 (.tmp 7), none⟩, ⟨some 53, .load 1 false (.tmp 52), none⟩, ⟨some 54, .iadr 1 (.tmp 51) (.tmp 53), none⟩, ⟨some 55, .load 1 false (.tmp 54), none⟩, ⟨some 56, .fadr 0 (.tmp 7), none⟩, ⟨some 57, .load 1 false (.tmp 56), none⟩, ⟨some 58, .fadr 1 (.tmp 7), none⟩, ⟨some 59, .load 1 false (.tmp 58), none⟩, ⟨some 60, .call 45 [(.tmp 59)], none⟩, ⟨some 61, .mov (.tmp 1), none⟩, ⟨some 62, .bin .eql (.tmp 60) (.tmp 61), none⟩, ⟨some 63, .call 46 [(.tmp 55), (.tmp 57), (.tmp 62)], none⟩, ⟨some 47, .mov (.tmp 63), none⟩, ⟨some 64, .ext (.tmp 47) 0, none⟩, ⟨some 65, .ext (.tmp 47) 1, none⟩, ⟨some 66, .ext (.tmp 47) 2, none⟩, ⟨some 8, .mov (.tmp 64), none⟩, ⟨some 9, .mov (.tmp 65), none⟩, ⟨some 10, .mov (.tmp 66), none⟩] (.held ⟨some 48, .mov (.tmp 1), none⟩ (.held ⟨some 49, .fadr 0 (.tmp 6), none⟩ (.held ⟨some 50, .iarr 1 2 (.tmp 49) (.tmp 48), none⟩ (.held ⟨some 51, .load 1 false (.tmp 50), none⟩ (.held ⟨some 52, .fadr 1 (.tmp 7), none⟩ (.held ⟨some 53, .load 1 false (.tmp 52), none⟩ (.held ⟨some 54, .iadr 1 (.tmp 51) (.tmp 53), none⟩ (.held ⟨some 55, .load 1 false (.tmp 54), none⟩ (.held ⟨some 56, .fadr 0 (.tmp 7), none⟩ (.held ⟨some 57, .load 1 false (.tmp 56), none⟩ (.held ⟨some 58, .fadr 1 (.tmp 7), none⟩ (.held ⟨some 59, .load 1 false (.tmp 58), none⟩ (.held ⟨some 61, .mov (.tmp 1), none⟩ (.alt ⟨some 60, .call 45 [(.tmp 59)], none⟩ (.held ⟨some 62, .bin .eql (.tmp 60) (.tmp 61), none⟩ (.alt ⟨some 63, .call 46 [(.tmp 55), (.tmp 57), (.tmp 62)], none⟩ (.held ⟨some 47, .mov (.tmp 63), none⟩ (.held ⟨some 64, .ext (.tmp 47) 0, none⟩ (.held ⟨some 65, .ext (.tmp 47) 1, none⟩ (.held ⟨some 66, .ext (.tmp 47) 2, none⟩ (.held ⟨some 8, .mov (.tmp 64), none⟩ (.held ⟨some 9, .mov (.tmp 65), none⟩ (.held ⟨some 10, .mov (.tmp 66), none⟩ .done))))))) .stop)) .stop))))))))))))))) (.seq (.draw [⟨some 67, .mov (.tmp 1), none⟩, ⟨some 68, .fadr 0 (.tmp 6), none⟩, ⟨some 69, .iarr 1 2 (.tmp 68) (.tmp 67), none⟩, ⟨some 70, .load 1 false (.tmp 69), none⟩, ⟨some 71, .fadr 1 (.tmp 7), none⟩, ⟨some 72, .load 1 false (.tmp 71), none⟩, ⟨some 73, .mov (.tmp 8), none⟩, ⟨some 74, .iadr 1 (.tmp 70) (.tmp 72), none⟩, ⟨none, .store 1 (.tmp 74) (.tmp 73), none⟩] (.held ⟨some 67, .mov (.tmp 1), none⟩ (.held ⟨some 68, .fadr 0 (.tmp 6), none⟩ (.held ⟨some 69, .iarr 1 2 (.tmp 68) (.tmp 67), none⟩ (.held ⟨some 70, .load 1 false (.tmp 69), none⟩ (.held ⟨some 71, .fadr 1 (.tmp 7), none⟩ (.held ⟨some 72, .load 1 false (.tmp 71), none⟩ (.held ⟨some 73, .mov (.tmp 8), none⟩ (.held ⟨some 74, .iadr 1 (.tmp 70) (.tmp 72), none⟩ (.alt ⟨none, .store 1 (.tmp 74) (.tmp 73), none⟩ .done .stop)))))))))) (.seq (.seq (.ops [⟨some 75, .mov (.tmp 10), none⟩]) (.cond (.tmp 75) (.ops [⟨some 76, .mov (.tmp 1), none⟩, ⟨some 77, .mov (.tmp 1), none⟩, ⟨some 78, .fadr 2 (.tmp 6), none⟩, ⟨some 79, .iarr 1 2 (.tmp 78) (.tmp 77), none⟩, ⟨some 80, .load 1 false (.tmp 79), none⟩, ⟨some 81, .bin .add (.tmp 80) (.const (.int .i64 1)), none⟩, ⟨some 82, .fadr 2 (.tmp 6), none⟩, ⟨some 83, .iarr 1 2 (.tmp 82) (.tmp 76), none⟩, ⟨none, .store 1 (.tmp 83) (.tmp 81), none⟩]) .skip)) (.seq (.ops [⟨some 11, .mov (.const (.bool true)), none⟩]) (.seq (.seq (.ops [⟨some 84, .mov (.tmp 9), none⟩, ⟨some 85, .bin .gtr (.tmp 84) (.const (.int .i64 0)), none⟩]) (.cond (.tmp 85) (.ops [⟨some 87, .load 6 true (.tmp 6), none⟩, ⟨some 88, .mov (.tmp 1), none⟩, ⟨some 89, .bin .sub (.const (.int .i64 1)) (.tmp 88), none⟩, ⟨some 90, .mov (.tmp 9), none⟩, ⟨some 91, .fadr 1 (.tmp 7), none⟩, ⟨some 92, .load 1 false (.tmp 91), none⟩, ⟨some 93, .call 31 [(.tmp 87), (.tmp 89), (.tmp 90), (.tmp 92)], none⟩, ⟨some 86, .mov (.tmp 93), none⟩, ⟨some 94, .ext (.tmp 86) 0, none⟩, ⟨some 95, .ext (.tmp 86) 1, none⟩, ⟨none, .store 6 (.tmp 6) (.tmp 94), none⟩, ⟨some 11, .mov (.tmp 95), none⟩]) .skip)) (.seq (.seq (.ops [⟨some 96, .mov (.tmp 11), none⟩, ⟨some 97, .una .not (.tmp 96), none⟩, ⟨some 98, .mov (.tmp 97), none⟩, ⟨some 99, .mov (.tmp 1), some (98, false)⟩, ⟨some 100, .fadr 2 (.tmp 6), some (98, false)⟩, ⟨some 101, .iarr 1 2 (.tmp 100) (.tmp 99), some (98, false)⟩, ⟨some 102, .load 1 false (.tmp 101), some (98, false)⟩, ⟨some 103, .bin .gtr (.tmp 102) (.const (.int .i64 1000000)), some (98, false)⟩, ⟨some 104, .pick (.tmp 98) (.const (.bool true)) (.tmp 103), none⟩]) (.cond (.tmp 104) (.seq (.ops [⟨some 105, .load 6 true (.tmp 2), none⟩, ⟨none, .store 6 (.tmp 4) (.tmp 105), none⟩, ⟨some 5, .mov (.const (.bool false)), none⟩]) .ret) .skip)) (.seq (.ops [⟨some 106, .load 6 true (.tmp 6), none⟩, ⟨none, .store 6 (.tmp 4) (.tmp 106), none⟩, ⟨some 5, .mov (.const (.bool true)), none⟩]) .ret)))))))))))))
@[reducible] def rv17 : List RV := [.cell 4 6 true, .tmp 5]
theorem low17 : lowC Try.prog tau Try.f17.ntmps (Try.f17.body.getD .skip) = some (erase ic17) := by kernel_rfl
theorem res17 : lowR Try.prog Try.f17.results.toList = some rv17 := by kernel_rfl
theorem bod17 : Try.f17.body = some (Try.f17.body.getD .skip) := by kernel_rfl
theorem cal17 : callable Try.prog 17 = true := by kernel_rfl

end Go.Proofs.YtfgefmkcmkihhaaE

/-! The code of a function, in the engine's words. -/
namespace Go.Proofs.YtfgefmkcmkihhaaE
open Go Go.RowKit
@[reducible] def ic18 : IC := (.seq (.ops [⟨some 2, .box (.tmp 0), none⟩, ⟨some 4, .new [(.slice none 0 0), (.slice none 0 0), (.int .i64 0), (.int .i64 0), (.slice none 0 0), (.slice none 0 0)], none⟩, ⟨some 5, .mov (.const (.bool false)), none⟩]) (.seq (.ops [⟨some 10, .load 6 true (.tmp 2), none⟩, ⟨some 11, .call 35 [(.tmp 10)], none⟩, ⟨some 6, .new [(.slice none 0 0), (.slice none 0 0), (.int .i64 0), (.int .i64 0), (.slice none 0 0), (.slice none 0 0)], none⟩, ⟨none, .store 6 (.tmp 6) (.tmp 11), none⟩]) (.seq (.ops [⟨some 12, .load 6 true (.tmp 2), none⟩, ⟨some 13, .call 35 [(.tmp 12)], none⟩, ⟨none, .store 6 (.tmp 2) (.tmp 13), none⟩]) (.seq (.seq (.ops [⟨some 14, .load 6 true (.tmp 2), none⟩, ⟨some 15, .call 36 [(.tmp 14)], none⟩, ⟨some 16, .una .not (.tmp 15), none⟩, ⟨some 17, .mov (.tmp 16), none⟩, ⟨some 18, .mov (.tmp 1), some (17, false)⟩, ⟨some 19, .call 37 [(.tmp 18), (.const (.int .i64 0)), (.const (.int .i64 1))], some (17, false)⟩, ⟨some 20, .una .not (.tmp 19), some (17, false)⟩, ⟨some 21, .pick (.tmp 17) (.const (.bool true)) (.tmp 20), none⟩, ⟨some 22, .mov (.tmp 21), none⟩, ⟨some 23, .mov (.tmp 1), some (22, false)⟩, ⟨some 24, .fadr 4 (.tmp 2), some (22, false)⟩, ⟨some 25, .iarr 1 2 (.tmp 24) (.tmp 23), some (22, false)⟩, ⟨some 26, .load 1 false (.tmp 25), some (22, false)⟩, ⟨some 27, .len (.tmp 26), some (22, false)⟩, ⟨some 28, .bin .eql (.tmp 27) (.const (.int .i64 0)), some (22, false)⟩, ⟨some 29, .pick (.tmp 22) (.const (.bool true)) (.tmp 28), none⟩]) (.cond (.tmp 29) (.seq (.ops [⟨some 30, .load 6 true (.tmp 6), none⟩, ⟨none, .store 6 (.tmp 4) (.tmp 30), none⟩, ⟨some 5, .mov (.const (.bool false)), none⟩]) .ret) .skip)) (.seq (.ops [⟨some 31, .mov (.tmp 1), none⟩, ⟨some 32, .fadr 4 (.tmp 2), none⟩, ⟨some 33, .iarr 1 2 (.tmp 32) (.tmp 31), none⟩, ⟨some 34, .load 1 false (.tmp 33), none⟩, ⟨some 35, .iadr 2 (.tmp 34) (.const (.int .i64 0)), none⟩, ⟨some 36, .load 2 true (.tmp 35), none⟩, ⟨some 7, .new [(.int .i64 0), (.int .i64 0)], none⟩, ⟨none, .store 2 (.tmp 7) (.tmp 36), none⟩]) (.seq (.ops [⟨some 37, .mov (.tmp 1), none⟩, ⟨some 38, .mov (.tmp 1), none⟩, ⟨some 39, .fadr 4 (.tmp 2), none⟩, ⟨some 40, .iarr 1 2 (.tmp 39) (.tmp 38), none⟩, ⟨some 41, .load 1 false (.tmp 40), none⟩, ⟨some 42, .slc 2 (.tmp 41) (some (.const (.int .i64 1))) none, none⟩, ⟨some 43, .fadr 4 (.tmp 2), none⟩, ⟨some 44, .iarr 1 2 (.tmp 43) (.tmp 37), none⟩, ⟨none, .store 1 (.tmp 44) (.tmp 42), none⟩]) (.seq (.draw [⟨some 45, .mov (.tmp 1), none⟩, ⟨some 46, .fadr 0 (.tmp 2), none⟩, ⟨some 47, .iarr 1 2 (.tmp 46) (.tmp 45), none⟩, ⟨some 48, .load 1 false (.tmp 47), none⟩, ⟨some 49, .fadr 1 (.tmp 7), none⟩, ⟨some 50, .load 1 false (.tmp 49), none⟩, ⟨some 51, .iadr 1 (.tmp 48) (.tmp 50), none⟩, ⟨some 8, .mov (.tmp 51), none⟩] (.held ⟨some 45, .mov (.tmp 1), none⟩ (.held ⟨some 46, .fadr 0 (.tmp 2), none⟩ (.held ⟨some 47, .iarr 1 2 (.tmp 46) (.tmp 45), none⟩ (.held ⟨some 48, .load 1 false (.tmp 47), none⟩ (.held ⟨some 49, .fadr 1 (.tmp 7), none⟩ (.held ⟨some 50, .load 1 false (.tmp 49), none⟩ (.held ⟨some 51, .iadr 1 (.tmp 48) (.tmp 50), none⟩ (.held ⟨some 8, .mov (.tmp 51), none⟩ .done))))))))) (.seq (.ops [⟨some 9, .mov (.const (.int .i64 0)), none⟩]) (.seq (.seq (.ops [⟨some 52, .fadr 0 (.tmp 7), none⟩, ⟨some 53, .load 1 false (.tmp 52), none⟩]) (.block 0 (.seq (.ops [⟨some 55, .bin .eql (.tmp 53) (.const (.int .i64 1)), none⟩, ⟨some 54, .mov (.tmp 55), none⟩]) (.cond (.tmp 54) (.block 1 (.seq (.ops [⟨some 57, .mov (.tmp 8), none⟩, ⟨some 58, .nilc (.tmp 57), none⟩, ⟨some 59, .load 1 false (.tmp 58), none⟩, ⟨some 60, .bin .eql (.tmp 59) (.const (.int .i64 0)), none⟩, ⟨some 56, .mov (.tmp 60), none⟩]) (.cond (.tmp 56) (.ops [⟨some 61, .mov (.tmp 8), none⟩, ⟨some 62, .nilc (.tmp 61), none⟩, ⟨none, .store 1 (.tmp 62) (.const (.int .i64 3)), none⟩, ⟨some 9, .mov (.const (.int .i64 2)), none⟩]) (.seq (.ops [⟨some 64, .mov (.tmp 8), none⟩, ⟨some 65, .nilc (.tmp 64), none⟩, ⟨some 66, .load 1 false (.tmp 65), none⟩, ⟨some 67, .bin .eql (.tmp 66) (.const (.int .i64 1)), none⟩, ⟨some 68, .mov (.tmp 67), none⟩, ⟨some 69, .fadr 1 (.tmp 7), some (68, true)⟩, ⟨some 70, .load 1 false (.tmp 69), some (68, true)⟩, ⟨some 71, .bin .rem (.tmp 70) (.const (.int .i64 2)), some (68, true)⟩, ⟨some 72, .mov (.tmp 1), some (68, true)⟩, ⟨some 73, .bin .neq (.tmp 71) (.tmp 72), some (68, true)⟩, ⟨some 74, .pick (.tmp 68) (.tmp 73) (.const (.bool false)), none⟩, ⟨some 63, .mov (.tmp 74), none⟩]) (.cond (.tmp 63) (.seq (.ops [⟨some 75, .mov (.tmp 8), none⟩, ⟨some 76, .nilc (.tmp 75), none⟩, ⟨none, .store 1 (.tmp 76) (.const (.int .i64 3)), none⟩, ⟨some 9, .mov (.const (.int .i64 2)), none⟩]) (.seq (.ops [⟨some 77, .mov (.tmp 1), none⟩, ⟨some 78, .fadr 2 (.tmp 2), none⟩, ⟨some 79, .iarr 1 2 (.tmp 78) (.tmp 77), none⟩, ⟨some 80, .load 1 false (.tmp 79), none⟩, ⟨some 81, .bin .add (.tmp 80) (.const (.int .i64 1)), none⟩, ⟨some 82, .fadr 2 (.tmp 2), none⟩, ⟨some 83, .iarr 1 2 (.tmp 82) (.tmp 77), none⟩, ⟨none, .store 1 (.tmp 83) (.tmp 81), none⟩]) (.seq (.ops [⟨some 84, .mov (.tmp 1), none⟩, ⟨some 85, .fadr 2 (.tmp 2), none⟩, ⟨some 86, .iarr 1 2 (.tmp 85) (.tmp 84), none⟩, ⟨some 87, .load 1 false (.tmp 86), none⟩, ⟨some 88, .bin .gtr (.tmp 87) (.const (.int .i64 1000000)), none⟩]) (.cond (.tmp 88) (.seq (.ops [⟨some 89, .load 6 true (.tmp 6), none⟩, ⟨none, .store 6 (.tmp 4) (.tmp 89), none⟩, ⟨some 5, .mov (.const (.bool false)), none⟩]) .ret) .skip)))) (.ops [⟨some 9, .mov (.const (.int .i64 3)), none⟩])))))) (.seq (.ops [⟨some 91, .bin .eql (.tmp 53) (.const (.int .i64 2)), none⟩, ⟨some 90, .mov (.tmp 91), none⟩]) (.cond (.tmp 90) (.seq (.ops [⟨some 92, .mov (.tmp 8), none⟩, ⟨some 93, .nilc (.tmp 92), none⟩, ⟨some 94, .load 1 false (.tmp 93), none⟩, ⟨some 95, .bin .eql (.tmp 94) (.const (.int .i64 1)), none⟩]) (.cond (.tmp 95) (.ops [⟨some 96, .mov (.tmp 8), none⟩, ⟨some 97, .nilc (.tmp 96), none⟩, ⟨none, .store 1 (.tmp 97) (.const (.int .i64 2)), none⟩]) .skip)) (.seq (.ops [⟨some 99, .bin .eql (.tmp 53) (.const (.int .i64 3)), none⟩, ⟨some 98, .mov (.tmp 99), none⟩]) (.cond (.tmp 98) (.seq (.ops [⟨some 100, .mov (.tmp 8), none⟩, ⟨some 101, .nilc (.tmp 100), none⟩, ⟨some 102, .load 1 false (.tmp 101), none⟩, ⟨some 103, .bin .eql (.tmp 102) (.const (.int .i64 1)), none⟩]) (.cond (.tmp 103) (.seq (.ops [⟨some 104, .mov (.tmp 8), none⟩, ⟨some 105, .nilc (.tmp 104), none⟩, ⟨none, .store 1 (.tmp 105) (.const (.int .i64 0)), none⟩]) (.seq (.ops [⟨some 106, .mov (.tmp 1), none⟩, ⟨some 107, .fadr 2 (.tmp 2), none⟩, ⟨some 108, .iarr 1 2 (.tmp 107) (.tmp 106), none⟩, ⟨some 109, .load 1 false (.tmp 108), none⟩, ⟨some 110, .bin .add (.tmp 109) (.const (.int .i64 1)), none⟩, ⟨some 111, .fadr 2 (.tmp 2), none⟩, ⟨some 112, .iarr 1 2 (.tmp 111) (.tmp 106), none⟩, ⟨none, .store 1 (.tmp 112) (.tmp 110), none⟩]) (.seq (.ops [⟨some 113, .mov (.tmp 1), none⟩, ⟨some 114, .fadr 2 (.tmp 2), none⟩, ⟨some 115, .iarr 1 2 (.tmp 114) (.tmp 113), none⟩, ⟨some 116, .load 1 false (.tmp 115), none⟩, ⟨some 117, .bin .gtr (.tmp 116) (.const (.int .i64 1000000)), none⟩]) (.cond (.tmp 117) (.seq (.ops [⟨some 118, .load 6 true (.tmp 6), none⟩, ⟨none, .store 6 (.tmp 4) (.tmp 118), none⟩, ⟨some 5, .mov (.const (.bool false)), none⟩]) .ret) .skip)))) .skip)) (.seq (.ops [⟨some 120, .bin .eql (.tmp 53) (.const (.int .i64 4)), none⟩, ⟨some 119, .mov (.tmp 120), none⟩]) (.cond (.tmp 119) (.seq (.seq (.ops [⟨some 121, .mov (.tmp 8), none⟩, ⟨some 122, .nilc (.tmp 121), none⟩, ⟨some 123, .load 1 false (.tmp 122), none⟩, ⟨some 124, .bin .eql (.tmp 123) (.const (.int .i64 3)), none⟩]) (.cond (.tmp 124) (.ops [⟨some 125, .mov (.tmp 8), none⟩, ⟨some 126, .nilc (.tmp 125), none⟩, ⟨none, .store 1 (.tmp 126) (.const (.int .i64 0)), none⟩]) .skip)) (.ops [⟨some 9, .mov (.const (.int .i64 5)), none⟩])) (.seq (.ops [⟨some 128, .bin .eql (.tmp 53) (.const (.int .i64 5)), none⟩, ⟨some 127, .mov (.tmp 128), none⟩]) (.cond (.tmp 127) (.seq (.ops [⟨some 129, .mov (.tmp 8), none⟩, ⟨some 130, .nilc (.tmp 129), none⟩, ⟨some 131, .load 1 false (.tmp 130), none⟩, ⟨some 132, .bin .eql (.tmp 131) (.const (.int .i64 4)), none⟩]) (.cond (.tmp 132) (.ops [⟨some 133, .mov (.tmp 8), none⟩, ⟨some 134, .nilc (.tmp 133), none⟩, ⟨none, .store 1 (.tmp 134) (.const (.int .i64 0)), none⟩]) .skip)) .skip)))))))))))) (.seq (.seq (.ops [⟨some 135, .mov (.tmp 9), none⟩, ⟨some 136, .bin .gtr (.tmp 135) (.const (.int .i64 0)), none⟩]) (.cond (.tmp 136) (.seq (.seq (.ops [⟨some 137, .mov (.tmp 1), none⟩, ⟨some 138, .bin .sub (.const (.int .i64 1)) (.tmp 137), none⟩, ⟨some 139, .fadr 4 (.tmp 2), none⟩, ⟨some 140, .iarr 1 2 (.tmp 139) (.tmp 138), none⟩, ⟨some 141, .load 1 false (.tmp 140), none⟩, ⟨some 142, .len (.tmp 141), none⟩, ⟨some 143, .bin .eql (.tmp 142) (.const (.int .i64 60)), none⟩]) (.cond (.tmp 143) (.seq (.ops [⟨some 144, .load 6 true (.tmp 6), none⟩, ⟨none, .store 6 (.tmp 4) (.tmp 144), none⟩, ⟨some 5, .mov (.const (.bool false)), none⟩]) .ret) .skip)) (.draw [⟨some 145, .mov (.tmp 1), none⟩, ⟨some 146, .bin .sub (.const (.int .i64 1)) (.tmp 145), none⟩, ⟨some 147, .mov (.tmp 1), none⟩, ⟨some 148, .bin .sub (.const (.int .i64 1)) (.tmp 147), none⟩, ⟨some 149, .fadr 4 (.tmp 2), none⟩, ⟨some 150, .iarr 1 2 (.tmp 149) (.tmp 148), none⟩, ⟨some 151, .load 1 false (.tmp 150), none⟩, ⟨some 152, .mov (.tmp 9), none⟩, ⟨some 153, .fadr 1 (.tmp 7), none⟩, ⟨some 154, .load 1 false (.tmp 153), none⟩, ⟨some 155, .bld [(.int .i64 0), (.int .i64 0)] [(0, 1, (.tmp 152)), (1, 1, (.tmp 154))], none⟩, ⟨some 156, .blds .note 1 [(0, 2, (.tmp 155))], none⟩, ⟨some 157, .app .note 16 (.tmp 151) (.tmp 156), none⟩, ⟨some 158, .fadr 4 (.tmp 2), none⟩, ⟨some 159, .iarr 1 2 (.tmp 158) (.tmp 146), none⟩, ⟨none, .store 1 (.tmp 159) (.tmp 157), none⟩] (.held ⟨some 145, .mov (.tmp 1), none⟩ (.held ⟨some 146, .bin .sub (.const (.int .i64 1)) (.tmp 145), none⟩ (.held ⟨some 147, .mov (.tmp 1), none⟩ (.held ⟨some 148, .bin .sub (.const (.int .i64 1)) (.tmp 147), none⟩ (.held ⟨some 149, .fadr 4 (.tmp 2), none⟩ (.held ⟨some 150, .iarr 1 2 (.tmp 149) (.tmp 148), none⟩ (.held ⟨some 151, .load 1 false (.tmp 150), none⟩ (.held ⟨some 152, .mov (.tmp 9), none⟩ (.held ⟨some 153, .fadr 1 (.tmp 7), none⟩ (.held ⟨some 154, .load 1 false (.tmp 153), none⟩ (.held ⟨some 155, .bld [(.int .i64 0), (.int .i64 0)] [(0, 1, (.tmp 152)), (1, 1, (.tmp 154))], none⟩ (.held ⟨some 158, .fadr 4 (.tmp 2), none⟩ (.alt ⟨some 156, .blds .note 1 [(0, 2, (.tmp 155))], none⟩ (.alt ⟨some 157, .app .note 16 (.tmp 151) (.tmp 156), none⟩ (.held ⟨some 159, .iarr 1 2 (.tmp 158) (.tmp 146), none⟩ (.alt ⟨none, .store 1 (.tmp 159) (.tmp 157), none⟩ .done .stop)) .stop) .stop))))))))))))))) .skip)) (.seq (.ops [⟨some 160, .load 6 true (.tmp 2), none⟩, ⟨none, .store 6 (.tmp 4) (.tmp 160), none⟩, ⟨some 5, .mov (.const (.bool true)), none⟩]) .ret)))))))))))
@[reducible] def rv18 : List RV := [.cell 4 6 true, .tmp 5]
theorem low18 : lowC Try.prog tau Try.f18.ntmps (Try.f18.body.getD .skip) = some (erase ic18) := by kernel_rfl
theorem res18 : lowR Try.prog Try.f18.results.toList = some rv18 := by kernel_rfl
theorem bod18 : Try.f18.body = some (Try.f18.body.getD .skip) := by kernel_rfl
theorem cal18 : callable Try.prog 18 = true := by kernel_rfl

end Go.Proofs.YtfgefmkcmkihhaaE

/-! Carry. -/
namespace Go.Proofs.YtfgefmkcmkihhaaE
open Go Go.RowKit
set_option linter.unusedSimpArgs false
set_option linter.unusedVariables false
set_option maxRecDepth 20000

structure Arr where
  seen : Int
  back : Int
  lost : Bool
def arrive (seen kind : Int) (owned : Bool) : Arr :=
  if kind = 1 then (if seen = 0 then ⟨3, 2, false⟩ else if seen = 1 ∧ owned = false then ⟨3, 2, true⟩ else ⟨seen, 3, false⟩)
  else if kind = 2 then (if seen = 1 then ⟨2, 0, false⟩ else ⟨seen, 0, false⟩)
  else if kind = 3 then (if seen = 1 then ⟨0, 0, true⟩ else ⟨seen, 0, false⟩)
  else if kind = 4 then (if seen = 3 then ⟨0, 5, false⟩ else ⟨seen, 5, false⟩)
  else if kind = 5 then (if seen = 4 then ⟨0, 0, false⟩ else ⟨seen, 0, false⟩)
  else ⟨seen, 0, false⟩
def spArrive : Spec := ⟨fun _ => [], fun args objs K => match args, objs with
  | [.v (.int .i64 seen), .v (.int .i64 kind), .v (.bool owned)], [] => K (.tup [.v (.int .i64 (arrive seen kind owned).seen), .v (.int .i64 (arrive seen kind owned).back), .v (.bool (arrive seen kind owned).lost)]) [] 0
  | _, _ => False⟩
theorem spArrive_t {a : List AVal} : spArrive.take a = [] := id rfl
theorem spArrive_f {seen} {kind} {owned} {K : AVal → Hp → Nat → Prop} : Spec.f spArrive ([.v (.int .i64 seen), .v (.int .i64 kind), .v (.bool owned)]) ([]) K = (K (.tup [.v (.int .i64 (arrive seen kind owned).seen), .v (.int .i64 (arrive seen kind owned).back), .v (.bool (arrive seen kind owned).lost)]) [] 0) := id rfl
theorem valid46 : Valid Try.prog 46 spArrive := by
  refine validI (Γ := lk []) Try.func46 bod46 low46 res46 (good_of trivial) ?_
  intro E args objs K h hE hG hP
  simp only [spArrive] at h
  split at h
  · refine ⟨by simp [Try.ntmps46], ?_⟩
    rename_i seen kind owned
    simp only [go_sem, hG, hP, Nat.reduceEqDiff, ↓reduceIte, reduceCtorEq, Nat.reduceAdd, Nat.reduceSub, Nat.reduceMul, Nat.reduceLT, Nat.reduceLeDiff, Int.reduceAdd, Int.reduceSub, Int.reduceMul, Int.reduceLT, Int.reduceLE, Int.reduceEq, Int.reduceNeg, Int.reduceNe, Int.reduceGE, Int.reduceGT, Nat.reduceBEq, Int.reduceToNat]
    repeat' (first | intro _ | refine And.intro ?_ ?_)
    all_goals
      refine ⟨_, _, _, ?_, h⟩
      clear h
      simp only [go_sem, hG, hP, Nat.reduceEqDiff, ↓reduceIte, reduceCtorEq, Nat.reduceAdd, Nat.reduceSub, Nat.reduceMul, Nat.reduceLT, Nat.reduceLeDiff, Int.reduceAdd, Int.reduceSub, Int.reduceMul, Int.reduceLT, Int.reduceLE, Int.reduceEq, Int.reduceNeg, Int.reduceNe, Int.reduceGE, Int.reduceGT, Nat.reduceBEq, Int.reduceToNat]
      simp [arrive, *]
  · exact h.elim
def Tr.lose (t : Tr) (s : Int) : Tr := if s = 0 then { t with x := t.x + 1 } else { t with y := t.y + 1 }
def Tr.l (t : Tr) (s : Int) : Int := if s = 0 then t.x else t.y
def note0 (t : Tr) (s : Int) : Note := (t.q s).getD 0 ⟨0, 0⟩
def arr0 (t : Tr) (s : Int) : Arr := arrive ((t.c s).getD (note0 t s).circuit.toNat 0) (note0 t s).kind (decide ((note0 t s).circuit.tmod 2 = s))
def carried (t : Tr) (s : Int) : Tr :=
  let a := arr0 t s
  let t1 := (t.setQ s ((t.q s).drop 1)).setC s ((t.c s).set (note0 t s).circuit.toNat a.seen)
  let t2 := if a.lost then t1.lose s else t1
  if 0 < a.back then t2.setQ (1 - s) (t.q (1 - s) ++ [⟨a.back, (note0 t s).circuit⟩]) else t2
def carryOk (t : Tr) (s : Int) : Prop := trOk t = true ∧ (0 ≤ s ∧ s ≤ 1) ∧ t.q s ≠ [] ∧ ¬ (0 < (arr0 t s).back ∧ ((t.q (1 - s)).length : Int) = 60) ∧ ¬ ((arr0 t s).lost = true ∧ t.l s + 1 > 1000000)
open Classical in
noncomputable def carry (t : Tr) (s : Int) : Tr × Bool := if carryOk t s then (carried t s, true) else (t, false)
theorem carry_no {t : Tr} {s : Int} (h : ¬ carryOk t s) : carry t s = (t, false) := if_neg h
theorem carry_yes {t : Tr} {s : Int} (h : carryOk t s) : carry t s = (carried t s, true) := if_pos h
def spCarry : Spec := ⟨fun _ => [], fun args objs K => match args, objs with
  | [.agg [.rs .int c0, .rs .int c1, .v (.int .i64 x), .v (.int .i64 y), .rs .note q0, .rs .note q1], .v (.int .i64 side)], [] => (c0.length ≤ 1099511627776 ∧ c1.length ≤ 1099511627776 ∧ q0.length ≤ 1099511627776 ∧ q1.length ≤ 1099511627776) ∧
      K (.tup [trA (carry ⟨c0, c1, x, y, q0, q1⟩ side).1, .v (.bool (carry ⟨c0, c1, x, y, q0, q1⟩ side).2)]) (trL (carry ⟨c0, c1, x, y, q0, q1⟩ side).1) 4
  | _, _ => False⟩
theorem spCarry_t {a : List AVal} : spCarry.take a = [] := id rfl
theorem spCarry_f {c0} {c1} {x} {y} {q0} {q1} {side} {K : AVal → Hp → Nat → Prop} : Spec.f spCarry ([.agg [.rs .int c0, .rs .int c1, .v (.int .i64 x), .v (.int .i64 y), .rs .note q0, .rs .note q1], .v (.int .i64 side)]) ([]) K = ((c0.length ≤ 1099511627776 ∧ c1.length ≤ 1099511627776 ∧ q0.length ≤ 1099511627776 ∧ q1.length ≤ 1099511627776) ∧
      K (.tup [trA (carry ⟨c0, c1, x, y, q0, q1⟩ side).1, .v (.bool (carry ⟨c0, c1, x, y, q0, q1⟩ side).2)]) (trL (carry ⟨c0, c1, x, y, q0, q1⟩ side).1) 4) := id rfl
/-- What a note does, case by case. -/
theorem arrive_cases (k s : Int) (o : Bool) (hk : 1 ≤ k ∧ k ≤ 5) :
    (k = 1 ∧ s = 0 ∧ arrive s k o = ⟨3, 2, false⟩) ∨ (k = 1 ∧ s = 1 ∧ o = false ∧ arrive s k o = ⟨3, 2, true⟩) ∨ (k = 1 ∧ s = 1 ∧ o = true ∧ arrive s k o = ⟨s, 3, false⟩) ∨ (k = 1 ∧ ¬ s = 0 ∧ ¬ s = 1 ∧ arrive s k o = ⟨s, 3, false⟩) ∨
    (k = 2 ∧ s = 1 ∧ arrive s k o = ⟨2, 0, false⟩) ∨ (k = 2 ∧ ¬ s = 1 ∧ arrive s k o = ⟨s, 0, false⟩) ∨ (k = 3 ∧ s = 1 ∧ arrive s k o = ⟨0, 0, true⟩) ∨ (k = 3 ∧ ¬ s = 1 ∧ arrive s k o = ⟨s, 0, false⟩) ∨
    (k = 4 ∧ s = 3 ∧ arrive s k o = ⟨0, 5, false⟩) ∨ (k = 4 ∧ ¬ s = 3 ∧ arrive s k o = ⟨s, 5, false⟩) ∨ (k = 5 ∧ s = 4 ∧ arrive s k o = ⟨0, 0, false⟩) ∨ (k = 5 ∧ ¬ s = 4 ∧ arrive s k o = ⟨s, 0, false⟩) := by
  have : k = 1 ∨ k = 2 ∨ k = 3 ∨ k = 4 ∨ k = 5 := by omega
  unfold arrive
  rcases this with rfl | rfl | rfl | rfl | rfl
  · by_cases h0 : s = 0
    · simp [h0]
    · by_cases h1 : s = 1
      · cases o <;> simp [h1]
      · simp [h0, h1]
  · by_cases h1 : s = 1 <;> simp [h1]
  · by_cases h1 : s = 1 <;> simp [h1]
  · by_cases h1 : s = 3 <;> simp [h1]
  · by_cases h1 : s = 4 <;> simp [h1]
end Go.Proofs.YtfgefmkcmkihhaaE

/-! Carry of the program. -/
namespace Go.Proofs.YtfgefmkcmkihhaaE
open Go Go.RowKit
set_option linter.unusedSimpArgs false
set_option linter.unusedVariables false
set_option maxRecDepth 20000
set_option maxHeartbeats 4000000

theorem cast_succ_ne (k : Nat) : (((k + 1 : Nat) : Int) = 0) = False := by apply eq_false; omega
theorem cast_succ_sub (k : Nat) : (((k + 1 : Nat) : Int) - 1).toNat = k := by omega
theorem cast_one_le (k : Nat) : (0 ≤ (1 : Int) ∧ (1 : Int) ≤ ((k + 1 : Nat) : Int)) = True := by apply eq_true; omega
theorem getD_cons0 {α : Type} {a d : α} {l : List α} : (a :: l).getD 0 d = a := rfl
theorem set_self {α : Type} {xs : List α} {i : Nat} {d : α} : xs.set i (xs.getD i d) = xs := by
  by_cases h : i < xs.length
  · simp [List.getD, h]
  · exact List.set_eq_of_length_le (by omega)
theorem trOk_n0 {c0 c1 : List Int} {x y : Int} {n : Note} {r q1 : List Note} (h : trOk ⟨c0, c1, x, y, n :: r, q1⟩ = true) : (1 ≤ n.kind ∧ n.kind ≤ 5) ∧ (0 ≤ n.circuit ∧ n.circuit < c0.length) ∧ (0 ≤ x ∧ x ≤ 1000000) ∧ (0 ≤ y ∧ y ≤ 1000000) := by
  simp only [trOk, sideOk, restOk, noteOk, List.all_cons, Bool.and_eq_true, decide_eq_true_eq] at h
  omega
theorem trOk_n1 {c0 c1 : List Int} {x y : Int} {n : Note} {r q0 : List Note} (h : trOk ⟨c0, c1, x, y, q0, n :: r⟩ = true) : (1 ≤ n.kind ∧ n.kind ≤ 5) ∧ (0 ≤ n.circuit ∧ n.circuit < c0.length) ∧ (0 ≤ x ∧ x ≤ 1000000) ∧ (0 ≤ y ∧ y ≤ 1000000) := by
  simp only [trOk, sideOk, restOk, noteOk, List.all_cons, Bool.and_eq_true, decide_eq_true_eq] at h
  omega
theorem valid18 : Valid Try.prog 18 spCarry := by
  refine validI (Γ := lk [(35, spToTr), (36, spTrOk), (37, spIn)]) Try.func18 bod18 low18 res18 (good_of ⟨⟨cal35, valid35⟩, ⟨cal36, valid36⟩, ⟨cal37, valid37⟩, trivial⟩) ?_
  intro E args objs K h hE hG hP
  simp only [spCarry] at h
  split at h
  · refine ⟨by simp [Try.ntmps18], ?_⟩
    rename_i c0 c1 x y q0 q1 side
    obtain ⟨⟨b1, b2, b3, b4⟩, h⟩ := h
    rcases side_cases side with hs | hs | hs
    · simp only [go_sem, hG, hP, Nat.reduceEqDiff, ↓reduceIte, reduceCtorEq, Nat.reduceAdd, Nat.reduceSub, Nat.reduceMul, Nat.reduceLT, Nat.reduceLeDiff, Int.reduceAdd, Int.reduceSub, Int.reduceMul, Int.reduceLT, Int.reduceLE, Int.reduceEq, Int.reduceNeg, Int.reduceNe, Int.reduceGE, Int.reduceGT, Nat.reduceBEq, Int.reduceToNat,  spToTr_f, spToTr_t, spTrOk_f, spTrOk_t, spIn_f, spIn_t, hs]
      repeat (refine And.intro (by first | omega | (simp; done) | (simp; omega) | (unfold appRoom; omega)) ?_)
      have no : ¬ carryOk ⟨c0, c1, x, y, q0, q1⟩ side := fun e => by have := e.2.1; rw [hs] at this; exact this
      rw [carry_no no] at h
      refine ⟨fun hT => ⟨_, _, _, ?_, h⟩, fun hT => ⟨_, _, _, ?_, h⟩⟩
      · simp only [trA_eq, trL_eq]
        simp only [go_sem, hG, hP, Nat.reduceEqDiff, ↓reduceIte, reduceCtorEq, Nat.reduceAdd, Nat.reduceSub, Nat.reduceMul, Nat.reduceLT, Nat.reduceLeDiff, Int.reduceAdd, Int.reduceSub, Int.reduceMul, Int.reduceLT, Int.reduceLE, Int.reduceEq, Int.reduceNeg, Int.reduceNe, Int.reduceGE, Int.reduceGT, Nat.reduceBEq, Int.reduceToNat]
        all_goals simp
      · simp only [trA_eq, trL_eq]
        simp only [go_sem, hG, hP, Nat.reduceEqDiff, ↓reduceIte, reduceCtorEq, Nat.reduceAdd, Nat.reduceSub, Nat.reduceMul, Nat.reduceLT, Nat.reduceLeDiff, Int.reduceAdd, Int.reduceSub, Int.reduceMul, Int.reduceLT, Int.reduceLE, Int.reduceEq, Int.reduceNeg, Int.reduceNe, Int.reduceGE, Int.reduceGT, Nat.reduceBEq, Int.reduceToNat]
        all_goals simp
    · subst hs
      rcases q0 with _ | ⟨n, r⟩
      · simp only [go_sem, hG, hP, Nat.reduceEqDiff, ↓reduceIte, reduceCtorEq, Nat.reduceAdd, Nat.reduceSub, Nat.reduceMul, Nat.reduceLT, Nat.reduceLeDiff, Int.reduceAdd, Int.reduceSub, Int.reduceMul, Int.reduceLT, Int.reduceLE, Int.reduceEq, Int.reduceNeg, Int.reduceNe, Int.reduceGE, Int.reduceGT, Nat.reduceBEq, Int.reduceToNat,  spToTr_f, spToTr_t, spTrOk_f, spTrOk_t, spIn_f, spIn_t]
        repeat (refine And.intro (by first | omega | (simp; done) | (simp; omega) | (unfold appRoom; omega)) ?_)
        rw [carry_no (t := ⟨c0, c1, x, y, [], q1⟩) (s := 0) (fun e => e.2.2.1 rfl)] at h
        refine ⟨fun hT => ⟨_, _, _, ?_, h⟩, fun hT => ⟨_, _, _, ?_, h⟩⟩
        · simp only [trA_eq, trL_eq]
          simp only [go_sem, hG, hP, Nat.reduceEqDiff, ↓reduceIte, reduceCtorEq, Nat.reduceAdd, Nat.reduceSub, Nat.reduceMul, Nat.reduceLT, Nat.reduceLeDiff, Int.reduceAdd, Int.reduceSub, Int.reduceMul, Int.reduceLT, Int.reduceLE, Int.reduceEq, Int.reduceNeg, Int.reduceNe, Int.reduceGE, Int.reduceGT, Nat.reduceBEq, Int.reduceToNat]
          all_goals simp
        · simp only [trA_eq, trL_eq]
          simp only [go_sem, hG, hP, Nat.reduceEqDiff, ↓reduceIte, reduceCtorEq, Nat.reduceAdd, Nat.reduceSub, Nat.reduceMul, Nat.reduceLT, Nat.reduceLeDiff, Int.reduceAdd, Int.reduceSub, Int.reduceMul, Int.reduceLT, Int.reduceLE, Int.reduceEq, Int.reduceNeg, Int.reduceNe, Int.reduceGE, Int.reduceGT, Nat.reduceBEq, Int.reduceToNat]
          all_goals simp
      · have b5 : r.length + 1 ≤ 1099511627776 := b3
        by_cases hT : trOk ⟨c0, c1, x, y, n :: r, q1⟩ = true
        · have hn := trOk_n0 hT
          have hL : c0.length = c1.length ∧ 1 ≤ c0.length ∧ c0.length ≤ 24 := trOk_head hT
          have hxx : (x > 1000000) = False := by apply eq_false; omega
          rcases arrive_cases n.kind (c0.getD n.circuit.toNat 0) (decide (n.circuit.tmod 2 = 0)) hn.1 with ⟨hk, h1, ha⟩ | ⟨hk, h1, ho, ha⟩ | ⟨hk, h1, ho, ha⟩ | ⟨hk, h1, h2, ha⟩ | ⟨hk, h1, ha⟩ | ⟨hk, h1, ha⟩ | ⟨hk, h1, ha⟩ | ⟨hk, h1, ha⟩ | ⟨hk, h1, ha⟩ | ⟨hk, h1, ha⟩ | ⟨hk, h1, ha⟩ | ⟨hk, h1, ha⟩
          · have e0 : arr0 ⟨c0, c1, x, y, n :: r, q1⟩ 0 = ⟨3, 2, false⟩ := ha
            simp only [go_sem, hG, hP, Nat.reduceEqDiff, ↓reduceIte, reduceCtorEq, Nat.reduceAdd, Nat.reduceSub, Nat.reduceMul, Nat.reduceLT, Nat.reduceLeDiff, Int.reduceAdd, Int.reduceSub, Int.reduceMul, Int.reduceLT, Int.reduceLE, Int.reduceEq, Int.reduceNeg, Int.reduceNe, Int.reduceGE, Int.reduceGT, Nat.reduceBEq, Int.reduceToNat,  spToTr_f, spToTr_t, spTrOk_f, spTrOk_t, spIn_f, spIn_t, hT, hk, h1, hxx, cast_succ_ne, cast_succ_sub, cast_one_le, getD_cons0]
            (try simp (disch := omega) only [wrap_id])
            repeat (refine And.intro (by first | omega | (simp; done) | (simp; omega) | (unfold appRoom; omega)) ?_)
            refine ⟨fun hq => ?_, fun hq => ?_⟩
            · rw [carry_no (t := ⟨c0, c1, x, y, n :: r, q1⟩) (s := 0) (fun e => e.2.2.2.1 ⟨by rw [e0]; simp, hq⟩)] at h
              refine ⟨_, _, _, ?_, h⟩
              simp only [trA_eq, trL_eq]
              simp only [go_sem, hG, hP, Nat.reduceEqDiff, ↓reduceIte, reduceCtorEq, Nat.reduceAdd, Nat.reduceSub, Nat.reduceMul, Nat.reduceLT, Nat.reduceLeDiff, Int.reduceAdd, Int.reduceSub, Int.reduceMul, Int.reduceLT, Int.reduceLE, Int.reduceEq, Int.reduceNeg, Int.reduceNe, Int.reduceGE, Int.reduceGT, Nat.reduceBEq, Int.reduceToNat]
              all_goals simp
            · repeat (refine And.intro (by first | omega | (simp; done) | (simp; omega) | (unfold appRoom; omega)) ?_)
              have ec : carried ⟨c0, c1, x, y, n :: r, q1⟩ 0 = ⟨c0.set n.circuit.toNat 3, c1, x, y, r, q1 ++ [⟨2, n.circuit⟩]⟩ := by unfold carried; rw [e0]; rfl
              rw [carry_yes (t := ⟨c0, c1, x, y, n :: r, q1⟩) (s := 0) ⟨hT, by omega, List.cons_ne_nil _ _, fun e => hq e.2, fun e => by rw [e0] at e; cases e.1⟩, ec] at h
              refine ⟨_, _, _, ?_, h⟩
              simp only [trA_eq, trL_eq]
              simp only [go_sem, hG, hP, Nat.reduceEqDiff, ↓reduceIte, reduceCtorEq, Nat.reduceAdd, Nat.reduceSub, Nat.reduceMul, Nat.reduceLT, Nat.reduceLeDiff, Int.reduceAdd, Int.reduceSub, Int.reduceMul, Int.reduceLT, Int.reduceLE, Int.reduceEq, Int.reduceNeg, Int.reduceNe, Int.reduceGE, Int.reduceGT, Nat.reduceBEq, Int.reduceToNat]
              all_goals simp
          · have e0 : arr0 ⟨c0, c1, x, y, n :: r, q1⟩ 0 = ⟨3, 2, true⟩ := ha
            have ho := of_decide_eq_false ho
            simp only [go_sem, hG, hP, Nat.reduceEqDiff, ↓reduceIte, reduceCtorEq, Nat.reduceAdd, Nat.reduceSub, Nat.reduceMul, Nat.reduceLT, Nat.reduceLeDiff, Int.reduceAdd, Int.reduceSub, Int.reduceMul, Int.reduceLT, Int.reduceLE, Int.reduceEq, Int.reduceNeg, Int.reduceNe, Int.reduceGE, Int.reduceGT, Nat.reduceBEq, Int.reduceToNat,  spToTr_f, spToTr_t, spTrOk_f, spTrOk_t, spIn_f, spIn_t, hT, hk, h1, ho, hxx, cast_succ_ne, cast_succ_sub, cast_one_le, getD_cons0]
            (try simp (disch := omega) only [wrap_id])
            repeat (refine And.intro (by first | omega | (simp; done) | (simp; omega) | (unfold appRoom; omega)) ?_)
            refine ⟨fun hx => ?_, fun hx => ?_⟩
            · rw [carry_no (t := ⟨c0, c1, x, y, n :: r, q1⟩) (s := 0) (fun e => e.2.2.2.2 ⟨by rw [e0], hx⟩)] at h
              refine ⟨_, _, _, ?_, h⟩
              simp only [trA_eq, trL_eq]
              simp only [go_sem, hG, hP, Nat.reduceEqDiff, ↓reduceIte, reduceCtorEq, Nat.reduceAdd, Nat.reduceSub, Nat.reduceMul, Nat.reduceLT, Nat.reduceLeDiff, Int.reduceAdd, Int.reduceSub, Int.reduceMul, Int.reduceLT, Int.reduceLE, Int.reduceEq, Int.reduceNeg, Int.reduceNe, Int.reduceGE, Int.reduceGT, Nat.reduceBEq, Int.reduceToNat]
              all_goals simp
            · skip
              refine ⟨fun hq => ?_, fun hq => ?_⟩
              · rw [carry_no (t := ⟨c0, c1, x, y, n :: r, q1⟩) (s := 0) (fun e => e.2.2.2.1 ⟨by rw [e0]; simp, hq⟩)] at h
                refine ⟨_, _, _, ?_, h⟩
                simp only [trA_eq, trL_eq]
                simp only [go_sem, hG, hP, Nat.reduceEqDiff, ↓reduceIte, reduceCtorEq, Nat.reduceAdd, Nat.reduceSub, Nat.reduceMul, Nat.reduceLT, Nat.reduceLeDiff, Int.reduceAdd, Int.reduceSub, Int.reduceMul, Int.reduceLT, Int.reduceLE, Int.reduceEq, Int.reduceNeg, Int.reduceNe, Int.reduceGE, Int.reduceGT, Nat.reduceBEq, Int.reduceToNat]
                all_goals simp
              · repeat (refine And.intro (by first | omega | (simp; done) | (simp; omega) | (unfold appRoom; omega)) ?_)
                have ec : carried ⟨c0, c1, x, y, n :: r, q1⟩ 0 = ⟨c0.set n.circuit.toNat 3, c1, x + 1, y, r, q1 ++ [⟨2, n.circuit⟩]⟩ := by unfold carried; rw [e0]; rfl
                rw [carry_yes (t := ⟨c0, c1, x, y, n :: r, q1⟩) (s := 0) ⟨hT, by omega, List.cons_ne_nil _ _, fun e => hq e.2, fun e => hx e.2⟩, ec] at h
                refine ⟨_, _, _, ?_, h⟩
                simp only [trA_eq, trL_eq]
                simp only [go_sem, hG, hP, Nat.reduceEqDiff, ↓reduceIte, reduceCtorEq, Nat.reduceAdd, Nat.reduceSub, Nat.reduceMul, Nat.reduceLT, Nat.reduceLeDiff, Int.reduceAdd, Int.reduceSub, Int.reduceMul, Int.reduceLT, Int.reduceLE, Int.reduceEq, Int.reduceNeg, Int.reduceNe, Int.reduceGE, Int.reduceGT, Nat.reduceBEq, Int.reduceToNat]
                all_goals simp
          · have e0 : arr0 ⟨c0, c1, x, y, n :: r, q1⟩ 0 = ⟨c0.getD n.circuit.toNat 0, 3, false⟩ := ha
            have ho := of_decide_eq_true ho
            simp only [go_sem, hG, hP, Nat.reduceEqDiff, ↓reduceIte, reduceCtorEq, Nat.reduceAdd, Nat.reduceSub, Nat.reduceMul, Nat.reduceLT, Nat.reduceLeDiff, Int.reduceAdd, Int.reduceSub, Int.reduceMul, Int.reduceLT, Int.reduceLE, Int.reduceEq, Int.reduceNeg, Int.reduceNe, Int.reduceGE, Int.reduceGT, Nat.reduceBEq, Int.reduceToNat,  spToTr_f, spToTr_t, spTrOk_f, spTrOk_t, spIn_f, spIn_t, hT, hk, h1, ho, hxx, cast_succ_ne, cast_succ_sub, cast_one_le, getD_cons0]
            (try simp (disch := omega) only [wrap_id])
            repeat (refine And.intro (by first | omega | (simp; done) | (simp; omega) | (unfold appRoom; omega)) ?_)
            refine ⟨fun hq => ?_, fun hq => ?_⟩
            · rw [carry_no (t := ⟨c0, c1, x, y, n :: r, q1⟩) (s := 0) (fun e => e.2.2.2.1 ⟨by rw [e0]; simp, hq⟩)] at h
              refine ⟨_, _, _, ?_, h⟩
              simp only [trA_eq, trL_eq]
              simp only [go_sem, hG, hP, Nat.reduceEqDiff, ↓reduceIte, reduceCtorEq, Nat.reduceAdd, Nat.reduceSub, Nat.reduceMul, Nat.reduceLT, Nat.reduceLeDiff, Int.reduceAdd, Int.reduceSub, Int.reduceMul, Int.reduceLT, Int.reduceLE, Int.reduceEq, Int.reduceNeg, Int.reduceNe, Int.reduceGE, Int.reduceGT, Nat.reduceBEq, Int.reduceToNat]
              all_goals simp
            · repeat (refine And.intro (by first | omega | (simp; done) | (simp; omega) | (unfold appRoom; omega)) ?_)
              have ec : carried ⟨c0, c1, x, y, n :: r, q1⟩ 0 = ⟨c0.set n.circuit.toNat (c0.getD n.circuit.toNat 0), c1, x, y, r, q1 ++ [⟨3, n.circuit⟩]⟩ := by unfold carried; rw [e0]; rfl
              rw [set_self] at ec
              rw [carry_yes (t := ⟨c0, c1, x, y, n :: r, q1⟩) (s := 0) ⟨hT, by omega, List.cons_ne_nil _ _, fun e => hq e.2, fun e => by rw [e0] at e; cases e.1⟩, ec] at h
              refine ⟨_, _, _, ?_, h⟩
              simp only [trA_eq, trL_eq]
              simp only [go_sem, hG, hP, Nat.reduceEqDiff, ↓reduceIte, reduceCtorEq, Nat.reduceAdd, Nat.reduceSub, Nat.reduceMul, Nat.reduceLT, Nat.reduceLeDiff, Int.reduceAdd, Int.reduceSub, Int.reduceMul, Int.reduceLT, Int.reduceLE, Int.reduceEq, Int.reduceNeg, Int.reduceNe, Int.reduceGE, Int.reduceGT, Nat.reduceBEq, Int.reduceToNat]
              all_goals simp
          · have e0 : arr0 ⟨c0, c1, x, y, n :: r, q1⟩ 0 = ⟨c0.getD n.circuit.toNat 0, 3, false⟩ := ha
            simp only [go_sem, hG, hP, Nat.reduceEqDiff, ↓reduceIte, reduceCtorEq, Nat.reduceAdd, Nat.reduceSub, Nat.reduceMul, Nat.reduceLT, Nat.reduceLeDiff, Int.reduceAdd, Int.reduceSub, Int.reduceMul, Int.reduceLT, Int.reduceLE, Int.reduceEq, Int.reduceNeg, Int.reduceNe, Int.reduceGE, Int.reduceGT, Nat.reduceBEq, Int.reduceToNat,  spToTr_f, spToTr_t, spTrOk_f, spTrOk_t, spIn_f, spIn_t, hT, hk, h1, h2, hxx, cast_succ_ne, cast_succ_sub, cast_one_le, getD_cons0]
            (try simp (disch := omega) only [wrap_id])
            repeat (refine And.intro (by first | omega | (simp; done) | (simp; omega) | (unfold appRoom; omega)) ?_)
            refine ⟨fun hq => ?_, fun hq => ?_⟩
            · rw [carry_no (t := ⟨c0, c1, x, y, n :: r, q1⟩) (s := 0) (fun e => e.2.2.2.1 ⟨by rw [e0]; simp, hq⟩)] at h
              refine ⟨_, _, _, ?_, h⟩
              simp only [trA_eq, trL_eq]
              simp only [go_sem, hG, hP, Nat.reduceEqDiff, ↓reduceIte, reduceCtorEq, Nat.reduceAdd, Nat.reduceSub, Nat.reduceMul, Nat.reduceLT, Nat.reduceLeDiff, Int.reduceAdd, Int.reduceSub, Int.reduceMul, Int.reduceLT, Int.reduceLE, Int.reduceEq, Int.reduceNeg, Int.reduceNe, Int.reduceGE, Int.reduceGT, Nat.reduceBEq, Int.reduceToNat]
              all_goals simp
            · repeat (refine And.intro (by first | omega | (simp; done) | (simp; omega) | (unfold appRoom; omega)) ?_)
              have ec : carried ⟨c0, c1, x, y, n :: r, q1⟩ 0 = ⟨c0.set n.circuit.toNat (c0.getD n.circuit.toNat 0), c1, x, y, r, q1 ++ [⟨3, n.circuit⟩]⟩ := by unfold carried; rw [e0]; rfl
              rw [set_self] at ec
              rw [carry_yes (t := ⟨c0, c1, x, y, n :: r, q1⟩) (s := 0) ⟨hT, by omega, List.cons_ne_nil _ _, fun e => hq e.2, fun e => by rw [e0] at e; cases e.1⟩, ec] at h
              refine ⟨_, _, _, ?_, h⟩
              simp only [trA_eq, trL_eq]
              simp only [go_sem, hG, hP, Nat.reduceEqDiff, ↓reduceIte, reduceCtorEq, Nat.reduceAdd, Nat.reduceSub, Nat.reduceMul, Nat.reduceLT, Nat.reduceLeDiff, Int.reduceAdd, Int.reduceSub, Int.reduceMul, Int.reduceLT, Int.reduceLE, Int.reduceEq, Int.reduceNeg, Int.reduceNe, Int.reduceGE, Int.reduceGT, Nat.reduceBEq, Int.reduceToNat]
              all_goals simp
          · have e0 : arr0 ⟨c0, c1, x, y, n :: r, q1⟩ 0 = ⟨2, 0, false⟩ := ha
            simp only [go_sem, hG, hP, Nat.reduceEqDiff, ↓reduceIte, reduceCtorEq, Nat.reduceAdd, Nat.reduceSub, Nat.reduceMul, Nat.reduceLT, Nat.reduceLeDiff, Int.reduceAdd, Int.reduceSub, Int.reduceMul, Int.reduceLT, Int.reduceLE, Int.reduceEq, Int.reduceNeg, Int.reduceNe, Int.reduceGE, Int.reduceGT, Nat.reduceBEq, Int.reduceToNat,  spToTr_f, spToTr_t, spTrOk_f, spTrOk_t, spIn_f, spIn_t, hT, hk, h1, hxx, cast_succ_ne, cast_succ_sub, cast_one_le, getD_cons0]
            (try simp (disch := omega) only [wrap_id])
            repeat (refine And.intro (by first | omega | (simp; done) | (simp; omega) | (unfold appRoom; omega)) ?_)
            have ec : carried ⟨c0, c1, x, y, n :: r, q1⟩ 0 = ⟨c0.set n.circuit.toNat 2, c1, x, y, r, q1⟩ := by unfold carried; rw [e0]; rfl
            rw [carry_yes (t := ⟨c0, c1, x, y, n :: r, q1⟩) (s := 0) ⟨hT, by omega, List.cons_ne_nil _ _, fun e => by rw [e0] at e; exact absurd e.1 (by simp), fun e => by rw [e0] at e; cases e.1⟩, ec] at h
            refine ⟨_, _, _, ?_, h⟩
            simp only [trA_eq, trL_eq]
            simp only [go_sem, hG, hP, Nat.reduceEqDiff, ↓reduceIte, reduceCtorEq, Nat.reduceAdd, Nat.reduceSub, Nat.reduceMul, Nat.reduceLT, Nat.reduceLeDiff, Int.reduceAdd, Int.reduceSub, Int.reduceMul, Int.reduceLT, Int.reduceLE, Int.reduceEq, Int.reduceNeg, Int.reduceNe, Int.reduceGE, Int.reduceGT, Nat.reduceBEq, Int.reduceToNat]
            all_goals simp
          · have e0 : arr0 ⟨c0, c1, x, y, n :: r, q1⟩ 0 = ⟨c0.getD n.circuit.toNat 0, 0, false⟩ := ha
            simp only [go_sem, hG, hP, Nat.reduceEqDiff, ↓reduceIte, reduceCtorEq, Nat.reduceAdd, Nat.reduceSub, Nat.reduceMul, Nat.reduceLT, Nat.reduceLeDiff, Int.reduceAdd, Int.reduceSub, Int.reduceMul, Int.reduceLT, Int.reduceLE, Int.reduceEq, Int.reduceNeg, Int.reduceNe, Int.reduceGE, Int.reduceGT, Nat.reduceBEq, Int.reduceToNat,  spToTr_f, spToTr_t, spTrOk_f, spTrOk_t, spIn_f, spIn_t, hT, hk, h1, hxx, cast_succ_ne, cast_succ_sub, cast_one_le, getD_cons0]
            (try simp (disch := omega) only [wrap_id])
            repeat (refine And.intro (by first | omega | (simp; done) | (simp; omega) | (unfold appRoom; omega)) ?_)
            have ec : carried ⟨c0, c1, x, y, n :: r, q1⟩ 0 = ⟨c0.set n.circuit.toNat (c0.getD n.circuit.toNat 0), c1, x, y, r, q1⟩ := by unfold carried; rw [e0]; rfl
            rw [set_self] at ec
            rw [carry_yes (t := ⟨c0, c1, x, y, n :: r, q1⟩) (s := 0) ⟨hT, by omega, List.cons_ne_nil _ _, fun e => by rw [e0] at e; exact absurd e.1 (by simp), fun e => by rw [e0] at e; cases e.1⟩, ec] at h
            refine ⟨_, _, _, ?_, h⟩
            simp only [trA_eq, trL_eq]
            simp only [go_sem, hG, hP, Nat.reduceEqDiff, ↓reduceIte, reduceCtorEq, Nat.reduceAdd, Nat.reduceSub, Nat.reduceMul, Nat.reduceLT, Nat.reduceLeDiff, Int.reduceAdd, Int.reduceSub, Int.reduceMul, Int.reduceLT, Int.reduceLE, Int.reduceEq, Int.reduceNeg, Int.reduceNe, Int.reduceGE, Int.reduceGT, Nat.reduceBEq, Int.reduceToNat]
            all_goals simp
          · have e0 : arr0 ⟨c0, c1, x, y, n :: r, q1⟩ 0 = ⟨0, 0, true⟩ := ha
            simp only [go_sem, hG, hP, Nat.reduceEqDiff, ↓reduceIte, reduceCtorEq, Nat.reduceAdd, Nat.reduceSub, Nat.reduceMul, Nat.reduceLT, Nat.reduceLeDiff, Int.reduceAdd, Int.reduceSub, Int.reduceMul, Int.reduceLT, Int.reduceLE, Int.reduceEq, Int.reduceNeg, Int.reduceNe, Int.reduceGE, Int.reduceGT, Nat.reduceBEq, Int.reduceToNat,  spToTr_f, spToTr_t, spTrOk_f, spTrOk_t, spIn_f, spIn_t, hT, hk, h1, hxx, cast_succ_ne, cast_succ_sub, cast_one_le, getD_cons0]
            (try simp (disch := omega) only [wrap_id])
            repeat (refine And.intro (by first | omega | (simp; done) | (simp; omega) | (unfold appRoom; omega)) ?_)
            refine ⟨fun hx => ?_, fun hx => ?_⟩
            · rw [carry_no (t := ⟨c0, c1, x, y, n :: r, q1⟩) (s := 0) (fun e => e.2.2.2.2 ⟨by rw [e0], hx⟩)] at h
              refine ⟨_, _, _, ?_, h⟩
              simp only [trA_eq, trL_eq]
              simp only [go_sem, hG, hP, Nat.reduceEqDiff, ↓reduceIte, reduceCtorEq, Nat.reduceAdd, Nat.reduceSub, Nat.reduceMul, Nat.reduceLT, Nat.reduceLeDiff, Int.reduceAdd, Int.reduceSub, Int.reduceMul, Int.reduceLT, Int.reduceLE, Int.reduceEq, Int.reduceNeg, Int.reduceNe, Int.reduceGE, Int.reduceGT, Nat.reduceBEq, Int.reduceToNat]
              all_goals simp
            · skip
              have ec : carried ⟨c0, c1, x, y, n :: r, q1⟩ 0 = ⟨c0.set n.circuit.toNat 0, c1, x + 1, y, r, q1⟩ := by unfold carried; rw [e0]; rfl
              rw [carry_yes (t := ⟨c0, c1, x, y, n :: r, q1⟩) (s := 0) ⟨hT, by omega, List.cons_ne_nil _ _, fun e => by rw [e0] at e; exact absurd e.1 (by simp), fun e => hx e.2⟩, ec] at h
              refine ⟨_, _, _, ?_, h⟩
              simp only [trA_eq, trL_eq]
              simp only [go_sem, hG, hP, Nat.reduceEqDiff, ↓reduceIte, reduceCtorEq, Nat.reduceAdd, Nat.reduceSub, Nat.reduceMul, Nat.reduceLT, Nat.reduceLeDiff, Int.reduceAdd, Int.reduceSub, Int.reduceMul, Int.reduceLT, Int.reduceLE, Int.reduceEq, Int.reduceNeg, Int.reduceNe, Int.reduceGE, Int.reduceGT, Nat.reduceBEq, Int.reduceToNat]
              all_goals simp
          · have e0 : arr0 ⟨c0, c1, x, y, n :: r, q1⟩ 0 = ⟨c0.getD n.circuit.toNat 0, 0, false⟩ := ha
            simp only [go_sem, hG, hP, Nat.reduceEqDiff, ↓reduceIte, reduceCtorEq, Nat.reduceAdd, Nat.reduceSub, Nat.reduceMul, Nat.reduceLT, Nat.reduceLeDiff, Int.reduceAdd, Int.reduceSub, Int.reduceMul, Int.reduceLT, Int.reduceLE, Int.reduceEq, Int.reduceNeg, Int.reduceNe, Int.reduceGE, Int.reduceGT, Nat.reduceBEq, Int.reduceToNat,  spToTr_f, spToTr_t, spTrOk_f, spTrOk_t, spIn_f, spIn_t, hT, hk, h1, hxx, cast_succ_ne, cast_succ_sub, cast_one_le, getD_cons0]
            (try simp (disch := omega) only [wrap_id])
            repeat (refine And.intro (by first | omega | (simp; done) | (simp; omega) | (unfold appRoom; omega)) ?_)
            have ec : carried ⟨c0, c1, x, y, n :: r, q1⟩ 0 = ⟨c0.set n.circuit.toNat (c0.getD n.circuit.toNat 0), c1, x, y, r, q1⟩ := by unfold carried; rw [e0]; rfl
            rw [set_self] at ec
            rw [carry_yes (t := ⟨c0, c1, x, y, n :: r, q1⟩) (s := 0) ⟨hT, by omega, List.cons_ne_nil _ _, fun e => by rw [e0] at e; exact absurd e.1 (by simp), fun e => by rw [e0] at e; cases e.1⟩, ec] at h
            refine ⟨_, _, _, ?_, h⟩
            simp only [trA_eq, trL_eq]
            simp only [go_sem, hG, hP, Nat.reduceEqDiff, ↓reduceIte, reduceCtorEq, Nat.reduceAdd, Nat.reduceSub, Nat.reduceMul, Nat.reduceLT, Nat.reduceLeDiff, Int.reduceAdd, Int.reduceSub, Int.reduceMul, Int.reduceLT, Int.reduceLE, Int.reduceEq, Int.reduceNeg, Int.reduceNe, Int.reduceGE, Int.reduceGT, Nat.reduceBEq, Int.reduceToNat]
            all_goals simp
          · have e0 : arr0 ⟨c0, c1, x, y, n :: r, q1⟩ 0 = ⟨0, 5, false⟩ := ha
            simp only [go_sem, hG, hP, Nat.reduceEqDiff, ↓reduceIte, reduceCtorEq, Nat.reduceAdd, Nat.reduceSub, Nat.reduceMul, Nat.reduceLT, Nat.reduceLeDiff, Int.reduceAdd, Int.reduceSub, Int.reduceMul, Int.reduceLT, Int.reduceLE, Int.reduceEq, Int.reduceNeg, Int.reduceNe, Int.reduceGE, Int.reduceGT, Nat.reduceBEq, Int.reduceToNat,  spToTr_f, spToTr_t, spTrOk_f, spTrOk_t, spIn_f, spIn_t, hT, hk, h1, hxx, cast_succ_ne, cast_succ_sub, cast_one_le, getD_cons0]
            (try simp (disch := omega) only [wrap_id])
            repeat (refine And.intro (by first | omega | (simp; done) | (simp; omega) | (unfold appRoom; omega)) ?_)
            refine ⟨fun hq => ?_, fun hq => ?_⟩
            · rw [carry_no (t := ⟨c0, c1, x, y, n :: r, q1⟩) (s := 0) (fun e => e.2.2.2.1 ⟨by rw [e0]; simp, hq⟩)] at h
              refine ⟨_, _, _, ?_, h⟩
              simp only [trA_eq, trL_eq]
              simp only [go_sem, hG, hP, Nat.reduceEqDiff, ↓reduceIte, reduceCtorEq, Nat.reduceAdd, Nat.reduceSub, Nat.reduceMul, Nat.reduceLT, Nat.reduceLeDiff, Int.reduceAdd, Int.reduceSub, Int.reduceMul, Int.reduceLT, Int.reduceLE, Int.reduceEq, Int.reduceNeg, Int.reduceNe, Int.reduceGE, Int.reduceGT, Nat.reduceBEq, Int.reduceToNat]
              all_goals simp
            · repeat (refine And.intro (by first | omega | (simp; done) | (simp; omega) | (unfold appRoom; omega)) ?_)
              have ec : carried ⟨c0, c1, x, y, n :: r, q1⟩ 0 = ⟨c0.set n.circuit.toNat 0, c1, x, y, r, q1 ++ [⟨5, n.circuit⟩]⟩ := by unfold carried; rw [e0]; rfl
              rw [carry_yes (t := ⟨c0, c1, x, y, n :: r, q1⟩) (s := 0) ⟨hT, by omega, List.cons_ne_nil _ _, fun e => hq e.2, fun e => by rw [e0] at e; cases e.1⟩, ec] at h
              refine ⟨_, _, _, ?_, h⟩
              simp only [trA_eq, trL_eq]
              simp only [go_sem, hG, hP, Nat.reduceEqDiff, ↓reduceIte, reduceCtorEq, Nat.reduceAdd, Nat.reduceSub, Nat.reduceMul, Nat.reduceLT, Nat.reduceLeDiff, Int.reduceAdd, Int.reduceSub, Int.reduceMul, Int.reduceLT, Int.reduceLE, Int.reduceEq, Int.reduceNeg, Int.reduceNe, Int.reduceGE, Int.reduceGT, Nat.reduceBEq, Int.reduceToNat]
              all_goals simp
          · have e0 : arr0 ⟨c0, c1, x, y, n :: r, q1⟩ 0 = ⟨c0.getD n.circuit.toNat 0, 5, false⟩ := ha
            simp only [go_sem, hG, hP, Nat.reduceEqDiff, ↓reduceIte, reduceCtorEq, Nat.reduceAdd, Nat.reduceSub, Nat.reduceMul, Nat.reduceLT, Nat.reduceLeDiff, Int.reduceAdd, Int.reduceSub, Int.reduceMul, Int.reduceLT, Int.reduceLE, Int.reduceEq, Int.reduceNeg, Int.reduceNe, Int.reduceGE, Int.reduceGT, Nat.reduceBEq, Int.reduceToNat,  spToTr_f, spToTr_t, spTrOk_f, spTrOk_t, spIn_f, spIn_t, hT, hk, h1, hxx, cast_succ_ne, cast_succ_sub, cast_one_le, getD_cons0]
            (try simp (disch := omega) only [wrap_id])
            repeat (refine And.intro (by first | omega | (simp; done) | (simp; omega) | (unfold appRoom; omega)) ?_)
            refine ⟨fun hq => ?_, fun hq => ?_⟩
            · rw [carry_no (t := ⟨c0, c1, x, y, n :: r, q1⟩) (s := 0) (fun e => e.2.2.2.1 ⟨by rw [e0]; simp, hq⟩)] at h
              refine ⟨_, _, _, ?_, h⟩
              simp only [trA_eq, trL_eq]
              simp only [go_sem, hG, hP, Nat.reduceEqDiff, ↓reduceIte, reduceCtorEq, Nat.reduceAdd, Nat.reduceSub, Nat.reduceMul, Nat.reduceLT, Nat.reduceLeDiff, Int.reduceAdd, Int.reduceSub, Int.reduceMul, Int.reduceLT, Int.reduceLE, Int.reduceEq, Int.reduceNeg, Int.reduceNe, Int.reduceGE, Int.reduceGT, Nat.reduceBEq, Int.reduceToNat]
              all_goals simp
            · repeat (refine And.intro (by first | omega | (simp; done) | (simp; omega) | (unfold appRoom; omega)) ?_)
              have ec : carried ⟨c0, c1, x, y, n :: r, q1⟩ 0 = ⟨c0.set n.circuit.toNat (c0.getD n.circuit.toNat 0), c1, x, y, r, q1 ++ [⟨5, n.circuit⟩]⟩ := by unfold carried; rw [e0]; rfl
              rw [set_self] at ec
              rw [carry_yes (t := ⟨c0, c1, x, y, n :: r, q1⟩) (s := 0) ⟨hT, by omega, List.cons_ne_nil _ _, fun e => hq e.2, fun e => by rw [e0] at e; cases e.1⟩, ec] at h
              refine ⟨_, _, _, ?_, h⟩
              simp only [trA_eq, trL_eq]
              simp only [go_sem, hG, hP, Nat.reduceEqDiff, ↓reduceIte, reduceCtorEq, Nat.reduceAdd, Nat.reduceSub, Nat.reduceMul, Nat.reduceLT, Nat.reduceLeDiff, Int.reduceAdd, Int.reduceSub, Int.reduceMul, Int.reduceLT, Int.reduceLE, Int.reduceEq, Int.reduceNeg, Int.reduceNe, Int.reduceGE, Int.reduceGT, Nat.reduceBEq, Int.reduceToNat]
              all_goals simp
          · have e0 : arr0 ⟨c0, c1, x, y, n :: r, q1⟩ 0 = ⟨0, 0, false⟩ := ha
            simp only [go_sem, hG, hP, Nat.reduceEqDiff, ↓reduceIte, reduceCtorEq, Nat.reduceAdd, Nat.reduceSub, Nat.reduceMul, Nat.reduceLT, Nat.reduceLeDiff, Int.reduceAdd, Int.reduceSub, Int.reduceMul, Int.reduceLT, Int.reduceLE, Int.reduceEq, Int.reduceNeg, Int.reduceNe, Int.reduceGE, Int.reduceGT, Nat.reduceBEq, Int.reduceToNat,  spToTr_f, spToTr_t, spTrOk_f, spTrOk_t, spIn_f, spIn_t, hT, hk, h1, hxx, cast_succ_ne, cast_succ_sub, cast_one_le, getD_cons0]
            (try simp (disch := omega) only [wrap_id])
            repeat (refine And.intro (by first | omega | (simp; done) | (simp; omega) | (unfold appRoom; omega)) ?_)
            have ec : carried ⟨c0, c1, x, y, n :: r, q1⟩ 0 = ⟨c0.set n.circuit.toNat 0, c1, x, y, r, q1⟩ := by unfold carried; rw [e0]; rfl
            rw [carry_yes (t := ⟨c0, c1, x, y, n :: r, q1⟩) (s := 0) ⟨hT, by omega, List.cons_ne_nil _ _, fun e => by rw [e0] at e; exact absurd e.1 (by simp), fun e => by rw [e0] at e; cases e.1⟩, ec] at h
            refine ⟨_, _, _, ?_, h⟩
            simp only [trA_eq, trL_eq]
            simp only [go_sem, hG, hP, Nat.reduceEqDiff, ↓reduceIte, reduceCtorEq, Nat.reduceAdd, Nat.reduceSub, Nat.reduceMul, Nat.reduceLT, Nat.reduceLeDiff, Int.reduceAdd, Int.reduceSub, Int.reduceMul, Int.reduceLT, Int.reduceLE, Int.reduceEq, Int.reduceNeg, Int.reduceNe, Int.reduceGE, Int.reduceGT, Nat.reduceBEq, Int.reduceToNat]
            all_goals simp
          · have e0 : arr0 ⟨c0, c1, x, y, n :: r, q1⟩ 0 = ⟨c0.getD n.circuit.toNat 0, 0, false⟩ := ha
            simp only [go_sem, hG, hP, Nat.reduceEqDiff, ↓reduceIte, reduceCtorEq, Nat.reduceAdd, Nat.reduceSub, Nat.reduceMul, Nat.reduceLT, Nat.reduceLeDiff, Int.reduceAdd, Int.reduceSub, Int.reduceMul, Int.reduceLT, Int.reduceLE, Int.reduceEq, Int.reduceNeg, Int.reduceNe, Int.reduceGE, Int.reduceGT, Nat.reduceBEq, Int.reduceToNat,  spToTr_f, spToTr_t, spTrOk_f, spTrOk_t, spIn_f, spIn_t, hT, hk, h1, hxx, cast_succ_ne, cast_succ_sub, cast_one_le, getD_cons0]
            (try simp (disch := omega) only [wrap_id])
            repeat (refine And.intro (by first | omega | (simp; done) | (simp; omega) | (unfold appRoom; omega)) ?_)
            have ec : carried ⟨c0, c1, x, y, n :: r, q1⟩ 0 = ⟨c0.set n.circuit.toNat (c0.getD n.circuit.toNat 0), c1, x, y, r, q1⟩ := by unfold carried; rw [e0]; rfl
            rw [set_self] at ec
            rw [carry_yes (t := ⟨c0, c1, x, y, n :: r, q1⟩) (s := 0) ⟨hT, by omega, List.cons_ne_nil _ _, fun e => by rw [e0] at e; exact absurd e.1 (by simp), fun e => by rw [e0] at e; cases e.1⟩, ec] at h
            refine ⟨_, _, _, ?_, h⟩
            simp only [trA_eq, trL_eq]
            simp only [go_sem, hG, hP, Nat.reduceEqDiff, ↓reduceIte, reduceCtorEq, Nat.reduceAdd, Nat.reduceSub, Nat.reduceMul, Nat.reduceLT, Nat.reduceLeDiff, Int.reduceAdd, Int.reduceSub, Int.reduceMul, Int.reduceLT, Int.reduceLE, Int.reduceEq, Int.reduceNeg, Int.reduceNe, Int.reduceGE, Int.reduceGT, Nat.reduceBEq, Int.reduceToNat]
            all_goals simp
        · simp only [go_sem, hG, hP, Nat.reduceEqDiff, ↓reduceIte, reduceCtorEq, Nat.reduceAdd, Nat.reduceSub, Nat.reduceMul, Nat.reduceLT, Nat.reduceLeDiff, Int.reduceAdd, Int.reduceSub, Int.reduceMul, Int.reduceLT, Int.reduceLE, Int.reduceEq, Int.reduceNeg, Int.reduceNe, Int.reduceGE, Int.reduceGT, Nat.reduceBEq, Int.reduceToNat,  spToTr_f, spToTr_t, spTrOk_f, spTrOk_t, spIn_f, spIn_t, hT]
          repeat (refine And.intro (by first | omega | (simp; done) | (simp; omega) | (unfold appRoom; omega)) ?_)
          rw [carry_no (t := ⟨c0, c1, x, y, n :: r, q1⟩) (s := 0) (fun e => hT e.1)] at h
          refine ⟨_, _, _, ?_, h⟩
          simp only [trA_eq, trL_eq]
          simp only [go_sem, hG, hP, Nat.reduceEqDiff, ↓reduceIte, reduceCtorEq, Nat.reduceAdd, Nat.reduceSub, Nat.reduceMul, Nat.reduceLT, Nat.reduceLeDiff, Int.reduceAdd, Int.reduceSub, Int.reduceMul, Int.reduceLT, Int.reduceLE, Int.reduceEq, Int.reduceNeg, Int.reduceNe, Int.reduceGE, Int.reduceGT, Nat.reduceBEq, Int.reduceToNat]
          all_goals simp
    · subst hs
      rcases q1 with _ | ⟨n, r⟩
      · simp only [go_sem, hG, hP, Nat.reduceEqDiff, ↓reduceIte, reduceCtorEq, Nat.reduceAdd, Nat.reduceSub, Nat.reduceMul, Nat.reduceLT, Nat.reduceLeDiff, Int.reduceAdd, Int.reduceSub, Int.reduceMul, Int.reduceLT, Int.reduceLE, Int.reduceEq, Int.reduceNeg, Int.reduceNe, Int.reduceGE, Int.reduceGT, Nat.reduceBEq, Int.reduceToNat,  spToTr_f, spToTr_t, spTrOk_f, spTrOk_t, spIn_f, spIn_t]
        repeat (refine And.intro (by first | omega | (simp; done) | (simp; omega) | (unfold appRoom; omega)) ?_)
        rw [carry_no (t := ⟨c0, c1, x, y, q0, []⟩) (s := 1) (fun e => e.2.2.1 rfl)] at h
        refine ⟨fun hT => ⟨_, _, _, ?_, h⟩, fun hT => ⟨_, _, _, ?_, h⟩⟩
        · simp only [trA_eq, trL_eq]
          simp only [go_sem, hG, hP, Nat.reduceEqDiff, ↓reduceIte, reduceCtorEq, Nat.reduceAdd, Nat.reduceSub, Nat.reduceMul, Nat.reduceLT, Nat.reduceLeDiff, Int.reduceAdd, Int.reduceSub, Int.reduceMul, Int.reduceLT, Int.reduceLE, Int.reduceEq, Int.reduceNeg, Int.reduceNe, Int.reduceGE, Int.reduceGT, Nat.reduceBEq, Int.reduceToNat]
          all_goals simp
        · simp only [trA_eq, trL_eq]
          simp only [go_sem, hG, hP, Nat.reduceEqDiff, ↓reduceIte, reduceCtorEq, Nat.reduceAdd, Nat.reduceSub, Nat.reduceMul, Nat.reduceLT, Nat.reduceLeDiff, Int.reduceAdd, Int.reduceSub, Int.reduceMul, Int.reduceLT, Int.reduceLE, Int.reduceEq, Int.reduceNeg, Int.reduceNe, Int.reduceGE, Int.reduceGT, Nat.reduceBEq, Int.reduceToNat]
          all_goals simp
      · have b5 : r.length + 1 ≤ 1099511627776 := b4
        by_cases hT : trOk ⟨c0, c1, x, y, q0, n :: r⟩ = true
        · have hn := trOk_n1 hT
          have hL : c0.length = c1.length ∧ 1 ≤ c0.length ∧ c0.length ≤ 24 := trOk_head hT
          have hxx : (y > 1000000) = False := by apply eq_false; omega
          rcases arrive_cases n.kind (c1.getD n.circuit.toNat 0) (decide (n.circuit.tmod 2 = 1)) hn.1 with ⟨hk, h1, ha⟩ | ⟨hk, h1, ho, ha⟩ | ⟨hk, h1, ho, ha⟩ | ⟨hk, h1, h2, ha⟩ | ⟨hk, h1, ha⟩ | ⟨hk, h1, ha⟩ | ⟨hk, h1, ha⟩ | ⟨hk, h1, ha⟩ | ⟨hk, h1, ha⟩ | ⟨hk, h1, ha⟩ | ⟨hk, h1, ha⟩ | ⟨hk, h1, ha⟩
          · have e0 : arr0 ⟨c0, c1, x, y, q0, n :: r⟩ 1 = ⟨3, 2, false⟩ := ha
            simp only [go_sem, hG, hP, Nat.reduceEqDiff, ↓reduceIte, reduceCtorEq, Nat.reduceAdd, Nat.reduceSub, Nat.reduceMul, Nat.reduceLT, Nat.reduceLeDiff, Int.reduceAdd, Int.reduceSub, Int.reduceMul, Int.reduceLT, Int.reduceLE, Int.reduceEq, Int.reduceNeg, Int.reduceNe, Int.reduceGE, Int.reduceGT, Nat.reduceBEq, Int.reduceToNat,  spToTr_f, spToTr_t, spTrOk_f, spTrOk_t, spIn_f, spIn_t, hT, hk, h1, hxx, cast_succ_ne, cast_succ_sub, cast_one_le, getD_cons0]
            (try simp (disch := omega) only [wrap_id])
            repeat (refine And.intro (by first | omega | (simp; done) | (simp; omega) | (unfold appRoom; omega)) ?_)
            refine ⟨fun hq => ?_, fun hq => ?_⟩
            · rw [carry_no (t := ⟨c0, c1, x, y, q0, n :: r⟩) (s := 1) (fun e => e.2.2.2.1 ⟨by rw [e0]; simp, hq⟩)] at h
              refine ⟨_, _, _, ?_, h⟩
              simp only [trA_eq, trL_eq]
              simp only [go_sem, hG, hP, Nat.reduceEqDiff, ↓reduceIte, reduceCtorEq, Nat.reduceAdd, Nat.reduceSub, Nat.reduceMul, Nat.reduceLT, Nat.reduceLeDiff, Int.reduceAdd, Int.reduceSub, Int.reduceMul, Int.reduceLT, Int.reduceLE, Int.reduceEq, Int.reduceNeg, Int.reduceNe, Int.reduceGE, Int.reduceGT, Nat.reduceBEq, Int.reduceToNat]
              all_goals simp
            · repeat (refine And.intro (by first | omega | (simp; done) | (simp; omega) | (unfold appRoom; omega)) ?_)
              have ec : carried ⟨c0, c1, x, y, q0, n :: r⟩ 1 = ⟨c0, c1.set n.circuit.toNat 3, x, y, q0 ++ [⟨2, n.circuit⟩], r⟩ := by unfold carried; rw [e0]; rfl
              rw [carry_yes (t := ⟨c0, c1, x, y, q0, n :: r⟩) (s := 1) ⟨hT, by omega, List.cons_ne_nil _ _, fun e => hq e.2, fun e => by rw [e0] at e; cases e.1⟩, ec] at h
              refine ⟨_, _, _, ?_, h⟩
              simp only [trA_eq, trL_eq]
              simp only [go_sem, hG, hP, Nat.reduceEqDiff, ↓reduceIte, reduceCtorEq, Nat.reduceAdd, Nat.reduceSub, Nat.reduceMul, Nat.reduceLT, Nat.reduceLeDiff, Int.reduceAdd, Int.reduceSub, Int.reduceMul, Int.reduceLT, Int.reduceLE, Int.reduceEq, Int.reduceNeg, Int.reduceNe, Int.reduceGE, Int.reduceGT, Nat.reduceBEq, Int.reduceToNat]
              all_goals simp
          · have e0 : arr0 ⟨c0, c1, x, y, q0, n :: r⟩ 1 = ⟨3, 2, true⟩ := ha
            have ho := of_decide_eq_false ho
            simp only [go_sem, hG, hP, Nat.reduceEqDiff, ↓reduceIte, reduceCtorEq, Nat.reduceAdd, Nat.reduceSub, Nat.reduceMul, Nat.reduceLT, Nat.reduceLeDiff, Int.reduceAdd, Int.reduceSub, Int.reduceMul, Int.reduceLT, Int.reduceLE, Int.reduceEq, Int.reduceNeg, Int.reduceNe, Int.reduceGE, Int.reduceGT, Nat.reduceBEq, Int.reduceToNat,  spToTr_f, spToTr_t, spTrOk_f, spTrOk_t, spIn_f, spIn_t, hT, hk, h1, ho, hxx, cast_succ_ne, cast_succ_sub, cast_one_le, getD_cons0]
            (try simp (disch := omega) only [wrap_id])
            repeat (refine And.intro (by first | omega | (simp; done) | (simp; omega) | (unfold appRoom; omega)) ?_)
            refine ⟨fun hx => ?_, fun hx => ?_⟩
            · rw [carry_no (t := ⟨c0, c1, x, y, q0, n :: r⟩) (s := 1) (fun e => e.2.2.2.2 ⟨by rw [e0], hx⟩)] at h
              refine ⟨_, _, _, ?_, h⟩
              simp only [trA_eq, trL_eq]
              simp only [go_sem, hG, hP, Nat.reduceEqDiff, ↓reduceIte, reduceCtorEq, Nat.reduceAdd, Nat.reduceSub, Nat.reduceMul, Nat.reduceLT, Nat.reduceLeDiff, Int.reduceAdd, Int.reduceSub, Int.reduceMul, Int.reduceLT, Int.reduceLE, Int.reduceEq, Int.reduceNeg, Int.reduceNe, Int.reduceGE, Int.reduceGT, Nat.reduceBEq, Int.reduceToNat]
              all_goals simp
            · skip
              refine ⟨fun hq => ?_, fun hq => ?_⟩
              · rw [carry_no (t := ⟨c0, c1, x, y, q0, n :: r⟩) (s := 1) (fun e => e.2.2.2.1 ⟨by rw [e0]; simp, hq⟩)] at h
                refine ⟨_, _, _, ?_, h⟩
                simp only [trA_eq, trL_eq]
                simp only [go_sem, hG, hP, Nat.reduceEqDiff, ↓reduceIte, reduceCtorEq, Nat.reduceAdd, Nat.reduceSub, Nat.reduceMul, Nat.reduceLT, Nat.reduceLeDiff, Int.reduceAdd, Int.reduceSub, Int.reduceMul, Int.reduceLT, Int.reduceLE, Int.reduceEq, Int.reduceNeg, Int.reduceNe, Int.reduceGE, Int.reduceGT, Nat.reduceBEq, Int.reduceToNat]
                all_goals simp
              · repeat (refine And.intro (by first | omega | (simp; done) | (simp; omega) | (unfold appRoom; omega)) ?_)
                have ec : carried ⟨c0, c1, x, y, q0, n :: r⟩ 1 = ⟨c0, c1.set n.circuit.toNat 3, x, y + 1, q0 ++ [⟨2, n.circuit⟩], r⟩ := by unfold carried; rw [e0]; rfl
                rw [carry_yes (t := ⟨c0, c1, x, y, q0, n :: r⟩) (s := 1) ⟨hT, by omega, List.cons_ne_nil _ _, fun e => hq e.2, fun e => hx e.2⟩, ec] at h
                refine ⟨_, _, _, ?_, h⟩
                simp only [trA_eq, trL_eq]
                simp only [go_sem, hG, hP, Nat.reduceEqDiff, ↓reduceIte, reduceCtorEq, Nat.reduceAdd, Nat.reduceSub, Nat.reduceMul, Nat.reduceLT, Nat.reduceLeDiff, Int.reduceAdd, Int.reduceSub, Int.reduceMul, Int.reduceLT, Int.reduceLE, Int.reduceEq, Int.reduceNeg, Int.reduceNe, Int.reduceGE, Int.reduceGT, Nat.reduceBEq, Int.reduceToNat]
                all_goals simp
          · have e0 : arr0 ⟨c0, c1, x, y, q0, n :: r⟩ 1 = ⟨c1.getD n.circuit.toNat 0, 3, false⟩ := ha
            have ho := of_decide_eq_true ho
            simp only [go_sem, hG, hP, Nat.reduceEqDiff, ↓reduceIte, reduceCtorEq, Nat.reduceAdd, Nat.reduceSub, Nat.reduceMul, Nat.reduceLT, Nat.reduceLeDiff, Int.reduceAdd, Int.reduceSub, Int.reduceMul, Int.reduceLT, Int.reduceLE, Int.reduceEq, Int.reduceNeg, Int.reduceNe, Int.reduceGE, Int.reduceGT, Nat.reduceBEq, Int.reduceToNat,  spToTr_f, spToTr_t, spTrOk_f, spTrOk_t, spIn_f, spIn_t, hT, hk, h1, ho, hxx, cast_succ_ne, cast_succ_sub, cast_one_le, getD_cons0]
            (try simp (disch := omega) only [wrap_id])
            repeat (refine And.intro (by first | omega | (simp; done) | (simp; omega) | (unfold appRoom; omega)) ?_)
            refine ⟨fun hq => ?_, fun hq => ?_⟩
            · rw [carry_no (t := ⟨c0, c1, x, y, q0, n :: r⟩) (s := 1) (fun e => e.2.2.2.1 ⟨by rw [e0]; simp, hq⟩)] at h
              refine ⟨_, _, _, ?_, h⟩
              simp only [trA_eq, trL_eq]
              simp only [go_sem, hG, hP, Nat.reduceEqDiff, ↓reduceIte, reduceCtorEq, Nat.reduceAdd, Nat.reduceSub, Nat.reduceMul, Nat.reduceLT, Nat.reduceLeDiff, Int.reduceAdd, Int.reduceSub, Int.reduceMul, Int.reduceLT, Int.reduceLE, Int.reduceEq, Int.reduceNeg, Int.reduceNe, Int.reduceGE, Int.reduceGT, Nat.reduceBEq, Int.reduceToNat]
              all_goals simp
            · repeat (refine And.intro (by first | omega | (simp; done) | (simp; omega) | (unfold appRoom; omega)) ?_)
              have ec : carried ⟨c0, c1, x, y, q0, n :: r⟩ 1 = ⟨c0, c1.set n.circuit.toNat (c1.getD n.circuit.toNat 0), x, y, q0 ++ [⟨3, n.circuit⟩], r⟩ := by unfold carried; rw [e0]; rfl
              rw [set_self] at ec
              rw [carry_yes (t := ⟨c0, c1, x, y, q0, n :: r⟩) (s := 1) ⟨hT, by omega, List.cons_ne_nil _ _, fun e => hq e.2, fun e => by rw [e0] at e; cases e.1⟩, ec] at h
              refine ⟨_, _, _, ?_, h⟩
              simp only [trA_eq, trL_eq]
              simp only [go_sem, hG, hP, Nat.reduceEqDiff, ↓reduceIte, reduceCtorEq, Nat.reduceAdd, Nat.reduceSub, Nat.reduceMul, Nat.reduceLT, Nat.reduceLeDiff, Int.reduceAdd, Int.reduceSub, Int.reduceMul, Int.reduceLT, Int.reduceLE, Int.reduceEq, Int.reduceNeg, Int.reduceNe, Int.reduceGE, Int.reduceGT, Nat.reduceBEq, Int.reduceToNat]
              all_goals simp
          · have e0 : arr0 ⟨c0, c1, x, y, q0, n :: r⟩ 1 = ⟨c1.getD n.circuit.toNat 0, 3, false⟩ := ha
            simp only [go_sem, hG, hP, Nat.reduceEqDiff, ↓reduceIte, reduceCtorEq, Nat.reduceAdd, Nat.reduceSub, Nat.reduceMul, Nat.reduceLT, Nat.reduceLeDiff, Int.reduceAdd, Int.reduceSub, Int.reduceMul, Int.reduceLT, Int.reduceLE, Int.reduceEq, Int.reduceNeg, Int.reduceNe, Int.reduceGE, Int.reduceGT, Nat.reduceBEq, Int.reduceToNat,  spToTr_f, spToTr_t, spTrOk_f, spTrOk_t, spIn_f, spIn_t, hT, hk, h1, h2, hxx, cast_succ_ne, cast_succ_sub, cast_one_le, getD_cons0]
            (try simp (disch := omega) only [wrap_id])
            repeat (refine And.intro (by first | omega | (simp; done) | (simp; omega) | (unfold appRoom; omega)) ?_)
            refine ⟨fun hq => ?_, fun hq => ?_⟩
            · rw [carry_no (t := ⟨c0, c1, x, y, q0, n :: r⟩) (s := 1) (fun e => e.2.2.2.1 ⟨by rw [e0]; simp, hq⟩)] at h
              refine ⟨_, _, _, ?_, h⟩
              simp only [trA_eq, trL_eq]
              simp only [go_sem, hG, hP, Nat.reduceEqDiff, ↓reduceIte, reduceCtorEq, Nat.reduceAdd, Nat.reduceSub, Nat.reduceMul, Nat.reduceLT, Nat.reduceLeDiff, Int.reduceAdd, Int.reduceSub, Int.reduceMul, Int.reduceLT, Int.reduceLE, Int.reduceEq, Int.reduceNeg, Int.reduceNe, Int.reduceGE, Int.reduceGT, Nat.reduceBEq, Int.reduceToNat]
              all_goals simp
            · repeat (refine And.intro (by first | omega | (simp; done) | (simp; omega) | (unfold appRoom; omega)) ?_)
              have ec : carried ⟨c0, c1, x, y, q0, n :: r⟩ 1 = ⟨c0, c1.set n.circuit.toNat (c1.getD n.circuit.toNat 0), x, y, q0 ++ [⟨3, n.circuit⟩], r⟩ := by unfold carried; rw [e0]; rfl
              rw [set_self] at ec
              rw [carry_yes (t := ⟨c0, c1, x, y, q0, n :: r⟩) (s := 1) ⟨hT, by omega, List.cons_ne_nil _ _, fun e => hq e.2, fun e => by rw [e0] at e; cases e.1⟩, ec] at h
              refine ⟨_, _, _, ?_, h⟩
              simp only [trA_eq, trL_eq]
              simp only [go_sem, hG, hP, Nat.reduceEqDiff, ↓reduceIte, reduceCtorEq, Nat.reduceAdd, Nat.reduceSub, Nat.reduceMul, Nat.reduceLT, Nat.reduceLeDiff, Int.reduceAdd, Int.reduceSub, Int.reduceMul, Int.reduceLT, Int.reduceLE, Int.reduceEq, Int.reduceNeg, Int.reduceNe, Int.reduceGE, Int.reduceGT, Nat.reduceBEq, Int.reduceToNat]
              all_goals simp
          · have e0 : arr0 ⟨c0, c1, x, y, q0, n :: r⟩ 1 = ⟨2, 0, false⟩ := ha
            simp only [go_sem, hG, hP, Nat.reduceEqDiff, ↓reduceIte, reduceCtorEq, Nat.reduceAdd, Nat.reduceSub, Nat.reduceMul, Nat.reduceLT, Nat.reduceLeDiff, Int.reduceAdd, Int.reduceSub, Int.reduceMul, Int.reduceLT, Int.reduceLE, Int.reduceEq, Int.reduceNeg, Int.reduceNe, Int.reduceGE, Int.reduceGT, Nat.reduceBEq, Int.reduceToNat,  spToTr_f, spToTr_t, spTrOk_f, spTrOk_t, spIn_f, spIn_t, hT, hk, h1, hxx, cast_succ_ne, cast_succ_sub, cast_one_le, getD_cons0]
            (try simp (disch := omega) only [wrap_id])
            repeat (refine And.intro (by first | omega | (simp; done) | (simp; omega) | (unfold appRoom; omega)) ?_)
            have ec : carried ⟨c0, c1, x, y, q0, n :: r⟩ 1 = ⟨c0, c1.set n.circuit.toNat 2, x, y, q0, r⟩ := by unfold carried; rw [e0]; rfl
            rw [carry_yes (t := ⟨c0, c1, x, y, q0, n :: r⟩) (s := 1) ⟨hT, by omega, List.cons_ne_nil _ _, fun e => by rw [e0] at e; exact absurd e.1 (by simp), fun e => by rw [e0] at e; cases e.1⟩, ec] at h
            refine ⟨_, _, _, ?_, h⟩
            simp only [trA_eq, trL_eq]
            simp only [go_sem, hG, hP, Nat.reduceEqDiff, ↓reduceIte, reduceCtorEq, Nat.reduceAdd, Nat.reduceSub, Nat.reduceMul, Nat.reduceLT, Nat.reduceLeDiff, Int.reduceAdd, Int.reduceSub, Int.reduceMul, Int.reduceLT, Int.reduceLE, Int.reduceEq, Int.reduceNeg, Int.reduceNe, Int.reduceGE, Int.reduceGT, Nat.reduceBEq, Int.reduceToNat]
            all_goals simp
          · have e0 : arr0 ⟨c0, c1, x, y, q0, n :: r⟩ 1 = ⟨c1.getD n.circuit.toNat 0, 0, false⟩ := ha
            simp only [go_sem, hG, hP, Nat.reduceEqDiff, ↓reduceIte, reduceCtorEq, Nat.reduceAdd, Nat.reduceSub, Nat.reduceMul, Nat.reduceLT, Nat.reduceLeDiff, Int.reduceAdd, Int.reduceSub, Int.reduceMul, Int.reduceLT, Int.reduceLE, Int.reduceEq, Int.reduceNeg, Int.reduceNe, Int.reduceGE, Int.reduceGT, Nat.reduceBEq, Int.reduceToNat,  spToTr_f, spToTr_t, spTrOk_f, spTrOk_t, spIn_f, spIn_t, hT, hk, h1, hxx, cast_succ_ne, cast_succ_sub, cast_one_le, getD_cons0]
            (try simp (disch := omega) only [wrap_id])
            repeat (refine And.intro (by first | omega | (simp; done) | (simp; omega) | (unfold appRoom; omega)) ?_)
            have ec : carried ⟨c0, c1, x, y, q0, n :: r⟩ 1 = ⟨c0, c1.set n.circuit.toNat (c1.getD n.circuit.toNat 0), x, y, q0, r⟩ := by unfold carried; rw [e0]; rfl
            rw [set_self] at ec
            rw [carry_yes (t := ⟨c0, c1, x, y, q0, n :: r⟩) (s := 1) ⟨hT, by omega, List.cons_ne_nil _ _, fun e => by rw [e0] at e; exact absurd e.1 (by simp), fun e => by rw [e0] at e; cases e.1⟩, ec] at h
            refine ⟨_, _, _, ?_, h⟩
            simp only [trA_eq, trL_eq]
            simp only [go_sem, hG, hP, Nat.reduceEqDiff, ↓reduceIte, reduceCtorEq, Nat.reduceAdd, Nat.reduceSub, Nat.reduceMul, Nat.reduceLT, Nat.reduceLeDiff, Int.reduceAdd, Int.reduceSub, Int.reduceMul, Int.reduceLT, Int.reduceLE, Int.reduceEq, Int.reduceNeg, Int.reduceNe, Int.reduceGE, Int.reduceGT, Nat.reduceBEq, Int.reduceToNat]
            all_goals simp
          · have e0 : arr0 ⟨c0, c1, x, y, q0, n :: r⟩ 1 = ⟨0, 0, true⟩ := ha
            simp only [go_sem, hG, hP, Nat.reduceEqDiff, ↓reduceIte, reduceCtorEq, Nat.reduceAdd, Nat.reduceSub, Nat.reduceMul, Nat.reduceLT, Nat.reduceLeDiff, Int.reduceAdd, Int.reduceSub, Int.reduceMul, Int.reduceLT, Int.reduceLE, Int.reduceEq, Int.reduceNeg, Int.reduceNe, Int.reduceGE, Int.reduceGT, Nat.reduceBEq, Int.reduceToNat,  spToTr_f, spToTr_t, spTrOk_f, spTrOk_t, spIn_f, spIn_t, hT, hk, h1, hxx, cast_succ_ne, cast_succ_sub, cast_one_le, getD_cons0]
            (try simp (disch := omega) only [wrap_id])
            repeat (refine And.intro (by first | omega | (simp; done) | (simp; omega) | (unfold appRoom; omega)) ?_)
            refine ⟨fun hx => ?_, fun hx => ?_⟩
            · rw [carry_no (t := ⟨c0, c1, x, y, q0, n :: r⟩) (s := 1) (fun e => e.2.2.2.2 ⟨by rw [e0], hx⟩)] at h
              refine ⟨_, _, _, ?_, h⟩
              simp only [trA_eq, trL_eq]
              simp only [go_sem, hG, hP, Nat.reduceEqDiff, ↓reduceIte, reduceCtorEq, Nat.reduceAdd, Nat.reduceSub, Nat.reduceMul, Nat.reduceLT, Nat.reduceLeDiff, Int.reduceAdd, Int.reduceSub, Int.reduceMul, Int.reduceLT, Int.reduceLE, Int.reduceEq, Int.reduceNeg, Int.reduceNe, Int.reduceGE, Int.reduceGT, Nat.reduceBEq, Int.reduceToNat]
              all_goals simp
            · skip
              have ec : carried ⟨c0, c1, x, y, q0, n :: r⟩ 1 = ⟨c0, c1.set n.circuit.toNat 0, x, y + 1, q0, r⟩ := by unfold carried; rw [e0]; rfl
              rw [carry_yes (t := ⟨c0, c1, x, y, q0, n :: r⟩) (s := 1) ⟨hT, by omega, List.cons_ne_nil _ _, fun e => by rw [e0] at e; exact absurd e.1 (by simp), fun e => hx e.2⟩, ec] at h
              refine ⟨_, _, _, ?_, h⟩
              simp only [trA_eq, trL_eq]
              simp only [go_sem, hG, hP, Nat.reduceEqDiff, ↓reduceIte, reduceCtorEq, Nat.reduceAdd, Nat.reduceSub, Nat.reduceMul, Nat.reduceLT, Nat.reduceLeDiff, Int.reduceAdd, Int.reduceSub, Int.reduceMul, Int.reduceLT, Int.reduceLE, Int.reduceEq, Int.reduceNeg, Int.reduceNe, Int.reduceGE, Int.reduceGT, Nat.reduceBEq, Int.reduceToNat]
              all_goals simp
          · have e0 : arr0 ⟨c0, c1, x, y, q0, n :: r⟩ 1 = ⟨c1.getD n.circuit.toNat 0, 0, false⟩ := ha
            simp only [go_sem, hG, hP, Nat.reduceEqDiff, ↓reduceIte, reduceCtorEq, Nat.reduceAdd, Nat.reduceSub, Nat.reduceMul, Nat.reduceLT, Nat.reduceLeDiff, Int.reduceAdd, Int.reduceSub, Int.reduceMul, Int.reduceLT, Int.reduceLE, Int.reduceEq, Int.reduceNeg, Int.reduceNe, Int.reduceGE, Int.reduceGT, Nat.reduceBEq, Int.reduceToNat,  spToTr_f, spToTr_t, spTrOk_f, spTrOk_t, spIn_f, spIn_t, hT, hk, h1, hxx, cast_succ_ne, cast_succ_sub, cast_one_le, getD_cons0]
            (try simp (disch := omega) only [wrap_id])
            repeat (refine And.intro (by first | omega | (simp; done) | (simp; omega) | (unfold appRoom; omega)) ?_)
            have ec : carried ⟨c0, c1, x, y, q0, n :: r⟩ 1 = ⟨c0, c1.set n.circuit.toNat (c1.getD n.circuit.toNat 0), x, y, q0, r⟩ := by unfold carried; rw [e0]; rfl
            rw [set_self] at ec
            rw [carry_yes (t := ⟨c0, c1, x, y, q0, n :: r⟩) (s := 1) ⟨hT, by omega, List.cons_ne_nil _ _, fun e => by rw [e0] at e; exact absurd e.1 (by simp), fun e => by rw [e0] at e; cases e.1⟩, ec] at h
            refine ⟨_, _, _, ?_, h⟩
            simp only [trA_eq, trL_eq]
            simp only [go_sem, hG, hP, Nat.reduceEqDiff, ↓reduceIte, reduceCtorEq, Nat.reduceAdd, Nat.reduceSub, Nat.reduceMul, Nat.reduceLT, Nat.reduceLeDiff, Int.reduceAdd, Int.reduceSub, Int.reduceMul, Int.reduceLT, Int.reduceLE, Int.reduceEq, Int.reduceNeg, Int.reduceNe, Int.reduceGE, Int.reduceGT, Nat.reduceBEq, Int.reduceToNat]
            all_goals simp
          · have e0 : arr0 ⟨c0, c1, x, y, q0, n :: r⟩ 1 = ⟨0, 5, false⟩ := ha
            simp only [go_sem, hG, hP, Nat.reduceEqDiff, ↓reduceIte, reduceCtorEq, Nat.reduceAdd, Nat.reduceSub, Nat.reduceMul, Nat.reduceLT, Nat.reduceLeDiff, Int.reduceAdd, Int.reduceSub, Int.reduceMul, Int.reduceLT, Int.reduceLE, Int.reduceEq, Int.reduceNeg, Int.reduceNe, Int.reduceGE, Int.reduceGT, Nat.reduceBEq, Int.reduceToNat,  spToTr_f, spToTr_t, spTrOk_f, spTrOk_t, spIn_f, spIn_t, hT, hk, h1, hxx, cast_succ_ne, cast_succ_sub, cast_one_le, getD_cons0]
            (try simp (disch := omega) only [wrap_id])
            repeat (refine And.intro (by first | omega | (simp; done) | (simp; omega) | (unfold appRoom; omega)) ?_)
            refine ⟨fun hq => ?_, fun hq => ?_⟩
            · rw [carry_no (t := ⟨c0, c1, x, y, q0, n :: r⟩) (s := 1) (fun e => e.2.2.2.1 ⟨by rw [e0]; simp, hq⟩)] at h
              refine ⟨_, _, _, ?_, h⟩
              simp only [trA_eq, trL_eq]
              simp only [go_sem, hG, hP, Nat.reduceEqDiff, ↓reduceIte, reduceCtorEq, Nat.reduceAdd, Nat.reduceSub, Nat.reduceMul, Nat.reduceLT, Nat.reduceLeDiff, Int.reduceAdd, Int.reduceSub, Int.reduceMul, Int.reduceLT, Int.reduceLE, Int.reduceEq, Int.reduceNeg, Int.reduceNe, Int.reduceGE, Int.reduceGT, Nat.reduceBEq, Int.reduceToNat]
              all_goals simp
            · repeat (refine And.intro (by first | omega | (simp; done) | (simp; omega) | (unfold appRoom; omega)) ?_)
              have ec : carried ⟨c0, c1, x, y, q0, n :: r⟩ 1 = ⟨c0, c1.set n.circuit.toNat 0, x, y, q0 ++ [⟨5, n.circuit⟩], r⟩ := by unfold carried; rw [e0]; rfl
              rw [carry_yes (t := ⟨c0, c1, x, y, q0, n :: r⟩) (s := 1) ⟨hT, by omega, List.cons_ne_nil _ _, fun e => hq e.2, fun e => by rw [e0] at e; cases e.1⟩, ec] at h
              refine ⟨_, _, _, ?_, h⟩
              simp only [trA_eq, trL_eq]
              simp only [go_sem, hG, hP, Nat.reduceEqDiff, ↓reduceIte, reduceCtorEq, Nat.reduceAdd, Nat.reduceSub, Nat.reduceMul, Nat.reduceLT, Nat.reduceLeDiff, Int.reduceAdd, Int.reduceSub, Int.reduceMul, Int.reduceLT, Int.reduceLE, Int.reduceEq, Int.reduceNeg, Int.reduceNe, Int.reduceGE, Int.reduceGT, Nat.reduceBEq, Int.reduceToNat]
              all_goals simp
          · have e0 : arr0 ⟨c0, c1, x, y, q0, n :: r⟩ 1 = ⟨c1.getD n.circuit.toNat 0, 5, false⟩ := ha
            simp only [go_sem, hG, hP, Nat.reduceEqDiff, ↓reduceIte, reduceCtorEq, Nat.reduceAdd, Nat.reduceSub, Nat.reduceMul, Nat.reduceLT, Nat.reduceLeDiff, Int.reduceAdd, Int.reduceSub, Int.reduceMul, Int.reduceLT, Int.reduceLE, Int.reduceEq, Int.reduceNeg, Int.reduceNe, Int.reduceGE, Int.reduceGT, Nat.reduceBEq, Int.reduceToNat,  spToTr_f, spToTr_t, spTrOk_f, spTrOk_t, spIn_f, spIn_t, hT, hk, h1, hxx, cast_succ_ne, cast_succ_sub, cast_one_le, getD_cons0]
            (try simp (disch := omega) only [wrap_id])
            repeat (refine And.intro (by first | omega | (simp; done) | (simp; omega) | (unfold appRoom; omega)) ?_)
            refine ⟨fun hq => ?_, fun hq => ?_⟩
            · rw [carry_no (t := ⟨c0, c1, x, y, q0, n :: r⟩) (s := 1) (fun e => e.2.2.2.1 ⟨by rw [e0]; simp, hq⟩)] at h
              refine ⟨_, _, _, ?_, h⟩
              simp only [trA_eq, trL_eq]
              simp only [go_sem, hG, hP, Nat.reduceEqDiff, ↓reduceIte, reduceCtorEq, Nat.reduceAdd, Nat.reduceSub, Nat.reduceMul, Nat.reduceLT, Nat.reduceLeDiff, Int.reduceAdd, Int.reduceSub, Int.reduceMul, Int.reduceLT, Int.reduceLE, Int.reduceEq, Int.reduceNeg, Int.reduceNe, Int.reduceGE, Int.reduceGT, Nat.reduceBEq, Int.reduceToNat]
              all_goals simp
            · repeat (refine And.intro (by first | omega | (simp; done) | (simp; omega) | (unfold appRoom; omega)) ?_)
              have ec : carried ⟨c0, c1, x, y, q0, n :: r⟩ 1 = ⟨c0, c1.set n.circuit.toNat (c1.getD n.circuit.toNat 0), x, y, q0 ++ [⟨5, n.circuit⟩], r⟩ := by unfold carried; rw [e0]; rfl
              rw [set_self] at ec
              rw [carry_yes (t := ⟨c0, c1, x, y, q0, n :: r⟩) (s := 1) ⟨hT, by omega, List.cons_ne_nil _ _, fun e => hq e.2, fun e => by rw [e0] at e; cases e.1⟩, ec] at h
              refine ⟨_, _, _, ?_, h⟩
              simp only [trA_eq, trL_eq]
              simp only [go_sem, hG, hP, Nat.reduceEqDiff, ↓reduceIte, reduceCtorEq, Nat.reduceAdd, Nat.reduceSub, Nat.reduceMul, Nat.reduceLT, Nat.reduceLeDiff, Int.reduceAdd, Int.reduceSub, Int.reduceMul, Int.reduceLT, Int.reduceLE, Int.reduceEq, Int.reduceNeg, Int.reduceNe, Int.reduceGE, Int.reduceGT, Nat.reduceBEq, Int.reduceToNat]
              all_goals simp
          · have e0 : arr0 ⟨c0, c1, x, y, q0, n :: r⟩ 1 = ⟨0, 0, false⟩ := ha
            simp only [go_sem, hG, hP, Nat.reduceEqDiff, ↓reduceIte, reduceCtorEq, Nat.reduceAdd, Nat.reduceSub, Nat.reduceMul, Nat.reduceLT, Nat.reduceLeDiff, Int.reduceAdd, Int.reduceSub, Int.reduceMul, Int.reduceLT, Int.reduceLE, Int.reduceEq, Int.reduceNeg, Int.reduceNe, Int.reduceGE, Int.reduceGT, Nat.reduceBEq, Int.reduceToNat,  spToTr_f, spToTr_t, spTrOk_f, spTrOk_t, spIn_f, spIn_t, hT, hk, h1, hxx, cast_succ_ne, cast_succ_sub, cast_one_le, getD_cons0]
            (try simp (disch := omega) only [wrap_id])
            repeat (refine And.intro (by first | omega | (simp; done) | (simp; omega) | (unfold appRoom; omega)) ?_)
            have ec : carried ⟨c0, c1, x, y, q0, n :: r⟩ 1 = ⟨c0, c1.set n.circuit.toNat 0, x, y, q0, r⟩ := by unfold carried; rw [e0]; rfl
            rw [carry_yes (t := ⟨c0, c1, x, y, q0, n :: r⟩) (s := 1) ⟨hT, by omega, List.cons_ne_nil _ _, fun e => by rw [e0] at e; exact absurd e.1 (by simp), fun e => by rw [e0] at e; cases e.1⟩, ec] at h
            refine ⟨_, _, _, ?_, h⟩
            simp only [trA_eq, trL_eq]
            simp only [go_sem, hG, hP, Nat.reduceEqDiff, ↓reduceIte, reduceCtorEq, Nat.reduceAdd, Nat.reduceSub, Nat.reduceMul, Nat.reduceLT, Nat.reduceLeDiff, Int.reduceAdd, Int.reduceSub, Int.reduceMul, Int.reduceLT, Int.reduceLE, Int.reduceEq, Int.reduceNeg, Int.reduceNe, Int.reduceGE, Int.reduceGT, Nat.reduceBEq, Int.reduceToNat]
            all_goals simp
          · have e0 : arr0 ⟨c0, c1, x, y, q0, n :: r⟩ 1 = ⟨c1.getD n.circuit.toNat 0, 0, false⟩ := ha
            simp only [go_sem, hG, hP, Nat.reduceEqDiff, ↓reduceIte, reduceCtorEq, Nat.reduceAdd, Nat.reduceSub, Nat.reduceMul, Nat.reduceLT, Nat.reduceLeDiff, Int.reduceAdd, Int.reduceSub, Int.reduceMul, Int.reduceLT, Int.reduceLE, Int.reduceEq, Int.reduceNeg, Int.reduceNe, Int.reduceGE, Int.reduceGT, Nat.reduceBEq, Int.reduceToNat,  spToTr_f, spToTr_t, spTrOk_f, spTrOk_t, spIn_f, spIn_t, hT, hk, h1, hxx, cast_succ_ne, cast_succ_sub, cast_one_le, getD_cons0]
            (try simp (disch := omega) only [wrap_id])
            repeat (refine And.intro (by first | omega | (simp; done) | (simp; omega) | (unfold appRoom; omega)) ?_)
            have ec : carried ⟨c0, c1, x, y, q0, n :: r⟩ 1 = ⟨c0, c1.set n.circuit.toNat (c1.getD n.circuit.toNat 0), x, y, q0, r⟩ := by unfold carried; rw [e0]; rfl
            rw [set_self] at ec
            rw [carry_yes (t := ⟨c0, c1, x, y, q0, n :: r⟩) (s := 1) ⟨hT, by omega, List.cons_ne_nil _ _, fun e => by rw [e0] at e; exact absurd e.1 (by simp), fun e => by rw [e0] at e; cases e.1⟩, ec] at h
            refine ⟨_, _, _, ?_, h⟩
            simp only [trA_eq, trL_eq]
            simp only [go_sem, hG, hP, Nat.reduceEqDiff, ↓reduceIte, reduceCtorEq, Nat.reduceAdd, Nat.reduceSub, Nat.reduceMul, Nat.reduceLT, Nat.reduceLeDiff, Int.reduceAdd, Int.reduceSub, Int.reduceMul, Int.reduceLT, Int.reduceLE, Int.reduceEq, Int.reduceNeg, Int.reduceNe, Int.reduceGE, Int.reduceGT, Nat.reduceBEq, Int.reduceToNat]
            all_goals simp
        · simp only [go_sem, hG, hP, Nat.reduceEqDiff, ↓reduceIte, reduceCtorEq, Nat.reduceAdd, Nat.reduceSub, Nat.reduceMul, Nat.reduceLT, Nat.reduceLeDiff, Int.reduceAdd, Int.reduceSub, Int.reduceMul, Int.reduceLT, Int.reduceLE, Int.reduceEq, Int.reduceNeg, Int.reduceNe, Int.reduceGE, Int.reduceGT, Nat.reduceBEq, Int.reduceToNat,  spToTr_f, spToTr_t, spTrOk_f, spTrOk_t, spIn_f, spIn_t, hT]
          repeat (refine And.intro (by first | omega | (simp; done) | (simp; omega) | (unfold appRoom; omega)) ?_)
          rw [carry_no (t := ⟨c0, c1, x, y, q0, n :: r⟩) (s := 1) (fun e => hT e.1)] at h
          refine ⟨_, _, _, ?_, h⟩
          simp only [trA_eq, trL_eq]
          simp only [go_sem, hG, hP, Nat.reduceEqDiff, ↓reduceIte, reduceCtorEq, Nat.reduceAdd, Nat.reduceSub, Nat.reduceMul, Nat.reduceLT, Nat.reduceLeDiff, Int.reduceAdd, Int.reduceSub, Int.reduceMul, Int.reduceLT, Int.reduceLE, Int.reduceEq, Int.reduceNeg, Int.reduceNe, Int.reduceGE, Int.reduceGT, Nat.reduceBEq, Int.reduceToNat]
          all_goals simp
  · exact h.elim
end Go.Proofs.YtfgefmkcmkihhaaE

/-! Carry of the reference. -/
namespace Go.Proofs.YtfgefmkcmkihhaaE
open Go Go.RowKit
set_option linter.unusedSimpArgs false
set_option linter.unusedVariables false
set_option maxRecDepth 20000
set_option maxHeartbeats 4000000

theorem valid17 : Valid Try.prog 17 spCarry := by
  refine validI (Γ := lk [(29, spToTr), (24, spTrOk), (30, spIn), (31, spPut), (45, spOwner), (46, spArrive)]) Try.func17 bod17 low17 res17 (good_of ⟨⟨cal29, valid29⟩, ⟨cal24, valid24⟩, ⟨cal30, valid30⟩, ⟨cal31, valid31⟩, ⟨cal45, valid45⟩, ⟨cal46, valid46⟩, trivial⟩) ?_
  intro E args objs K h hE hG hP
  simp only [spCarry] at h
  split at h
  · refine ⟨by simp [Try.ntmps17], ?_⟩
    rename_i c0 c1 x y q0 q1 side
    obtain ⟨⟨b1, b2, b3, b4⟩, h⟩ := h
    rcases side_cases side with hs | hs | hs
    · simp only [go_sem, hG, hP, Nat.reduceEqDiff, ↓reduceIte, reduceCtorEq, Nat.reduceAdd, Nat.reduceSub, Nat.reduceMul, Nat.reduceLT, Nat.reduceLeDiff, Int.reduceAdd, Int.reduceSub, Int.reduceMul, Int.reduceLT, Int.reduceLE, Int.reduceEq, Int.reduceNeg, Int.reduceNe, Int.reduceGE, Int.reduceGT, Nat.reduceBEq, Int.reduceToNat,  spToTr_f, spToTr_t, spTrOk_f, spTrOk_t, spIn_f, spIn_t, spPut_f, spPut_t, spOwner_f, spOwner_t, spArrive_f, spArrive_t, takeA6_eq, hs]
      repeat (refine And.intro (by first | omega | (simp; done) | (simp; omega) | (unfold appRoom; omega)) ?_)
      have no : ¬ carryOk ⟨c0, c1, x, y, q0, q1⟩ side := fun e => by have := e.2.1; rw [hs] at this; exact this
      rw [carry_no no] at h
      refine ⟨fun hT => ⟨_, _, _, ?_, h⟩, fun hT => ⟨_, _, _, ?_, h⟩⟩
      · simp only [trA_eq, trL_eq]
        simp only [go_sem, hG, hP, Nat.reduceEqDiff, ↓reduceIte, reduceCtorEq, Nat.reduceAdd, Nat.reduceSub, Nat.reduceMul, Nat.reduceLT, Nat.reduceLeDiff, Int.reduceAdd, Int.reduceSub, Int.reduceMul, Int.reduceLT, Int.reduceLE, Int.reduceEq, Int.reduceNeg, Int.reduceNe, Int.reduceGE, Int.reduceGT, Nat.reduceBEq, Int.reduceToNat]
        all_goals simp
      · simp only [trA_eq, trL_eq]
        simp only [go_sem, hG, hP, Nat.reduceEqDiff, ↓reduceIte, reduceCtorEq, Nat.reduceAdd, Nat.reduceSub, Nat.reduceMul, Nat.reduceLT, Nat.reduceLeDiff, Int.reduceAdd, Int.reduceSub, Int.reduceMul, Int.reduceLT, Int.reduceLE, Int.reduceEq, Int.reduceNeg, Int.reduceNe, Int.reduceGE, Int.reduceGT, Nat.reduceBEq, Int.reduceToNat]
        all_goals simp
    · subst hs
      rcases q0 with _ | ⟨n, r⟩
      · simp only [go_sem, hG, hP, Nat.reduceEqDiff, ↓reduceIte, reduceCtorEq, Nat.reduceAdd, Nat.reduceSub, Nat.reduceMul, Nat.reduceLT, Nat.reduceLeDiff, Int.reduceAdd, Int.reduceSub, Int.reduceMul, Int.reduceLT, Int.reduceLE, Int.reduceEq, Int.reduceNeg, Int.reduceNe, Int.reduceGE, Int.reduceGT, Nat.reduceBEq, Int.reduceToNat,  spToTr_f, spToTr_t, spTrOk_f, spTrOk_t, spIn_f, spIn_t, spPut_f, spPut_t, spOwner_f, spOwner_t, spArrive_f, spArrive_t, takeA6_eq]
        repeat (refine And.intro (by first | omega | (simp; done) | (simp; omega) | (unfold appRoom; omega)) ?_)
        rw [carry_no (t := ⟨c0, c1, x, y, [], q1⟩) (s := 0) (fun e => e.2.2.1 rfl)] at h
        refine ⟨fun hT => ⟨_, _, _, ?_, h⟩, fun hT => ⟨_, _, _, ?_, h⟩⟩
        · simp only [trA_eq, trL_eq]
          simp only [go_sem, hG, hP, Nat.reduceEqDiff, ↓reduceIte, reduceCtorEq, Nat.reduceAdd, Nat.reduceSub, Nat.reduceMul, Nat.reduceLT, Nat.reduceLeDiff, Int.reduceAdd, Int.reduceSub, Int.reduceMul, Int.reduceLT, Int.reduceLE, Int.reduceEq, Int.reduceNeg, Int.reduceNe, Int.reduceGE, Int.reduceGT, Nat.reduceBEq, Int.reduceToNat]
          all_goals simp
        · simp only [trA_eq, trL_eq]
          simp only [go_sem, hG, hP, Nat.reduceEqDiff, ↓reduceIte, reduceCtorEq, Nat.reduceAdd, Nat.reduceSub, Nat.reduceMul, Nat.reduceLT, Nat.reduceLeDiff, Int.reduceAdd, Int.reduceSub, Int.reduceMul, Int.reduceLT, Int.reduceLE, Int.reduceEq, Int.reduceNeg, Int.reduceNe, Int.reduceGE, Int.reduceGT, Nat.reduceBEq, Int.reduceToNat]
          all_goals simp
      · have b5 : r.length + 1 ≤ 1099511627776 := b3
        by_cases hT : trOk ⟨c0, c1, x, y, n :: r, q1⟩ = true
        · have hn := trOk_n0 hT
          have hL : c0.length = c1.length ∧ 1 ≤ c0.length ∧ c0.length ≤ 24 := trOk_head hT
          have hxx : (x > 1000000) = False := by apply eq_false; omega
          rcases arrive_cases n.kind (c0.getD n.circuit.toNat 0) (decide (n.circuit.tmod 2 = 0)) hn.1 with ⟨hk, h1, ha⟩ | ⟨hk, h1, ho, ha⟩ | ⟨hk, h1, ho, ha⟩ | ⟨hk, h1, h2, ha⟩ | ⟨hk, h1, ha⟩ | ⟨hk, h1, ha⟩ | ⟨hk, h1, ha⟩ | ⟨hk, h1, ha⟩ | ⟨hk, h1, ha⟩ | ⟨hk, h1, ha⟩ | ⟨hk, h1, ha⟩ | ⟨hk, h1, ha⟩
          · have e0 : arr0 ⟨c0, c1, x, y, n :: r, q1⟩ 0 = ⟨3, 2, false⟩ := ha
            simp only [go_sem, hG, hP, Nat.reduceEqDiff, ↓reduceIte, reduceCtorEq, Nat.reduceAdd, Nat.reduceSub, Nat.reduceMul, Nat.reduceLT, Nat.reduceLeDiff, Int.reduceAdd, Int.reduceSub, Int.reduceMul, Int.reduceLT, Int.reduceLE, Int.reduceEq, Int.reduceNeg, Int.reduceNe, Int.reduceGE, Int.reduceGT, Nat.reduceBEq, Int.reduceToNat,  spToTr_f, spToTr_t, spTrOk_f, spTrOk_t, spIn_f, spIn_t, spPut_f, spPut_t, spOwner_f, spOwner_t, spArrive_f, spArrive_t, takeA6_eq, hT, ha, hxx, cast_succ_ne, cast_succ_sub, cast_one_le, getD_cons0]
            (try simp (disch := omega) only [wrap_id])
            repeat (refine And.intro (by first | omega | (simp; done) | (simp; omega) | (unfold appRoom; omega)) ?_)
            refine ⟨fun hq => ?_, fun hq => ?_⟩
            · rw [carry_no (t := ⟨c0, c1, x, y, n :: r, q1⟩) (s := 0) (fun e => e.2.2.2.1 ⟨by rw [e0]; simp, (congrArg (Nat.cast (R := Int)) hq)⟩)] at h
              refine ⟨_, _, _, ?_, h⟩
              simp only [trA_eq, trL_eq]
              simp only [go_sem, hG, hP, Nat.reduceEqDiff, ↓reduceIte, reduceCtorEq, Nat.reduceAdd, Nat.reduceSub, Nat.reduceMul, Nat.reduceLT, Nat.reduceLeDiff, Int.reduceAdd, Int.reduceSub, Int.reduceMul, Int.reduceLT, Int.reduceLE, Int.reduceEq, Int.reduceNeg, Int.reduceNe, Int.reduceGE, Int.reduceGT, Nat.reduceBEq, Int.reduceToNat]
              all_goals simp
            · have hq : ¬ ((q1.length : Nat) : Int) = 60 := fun e => hq (Int.ofNat.inj e)
              repeat (refine And.intro (by first | omega | (simp; done) | (simp; omega) | (unfold appRoom; omega)) ?_)
              have ec : carried ⟨c0, c1, x, y, n :: r, q1⟩ 0 = ⟨c0.set n.circuit.toNat 3, c1, x, y, r, q1 ++ [⟨2, n.circuit⟩]⟩ := by unfold carried; rw [e0]; rfl
              rw [carry_yes (t := ⟨c0, c1, x, y, n :: r, q1⟩) (s := 0) ⟨hT, by omega, List.cons_ne_nil _ _, fun e => hq e.2, fun e => by rw [e0] at e; cases e.1⟩, ec] at h
              refine ⟨_, _, _, ?_, h⟩
              simp only [trA_eq, trL_eq]
              simp only [go_sem, hG, hP, Nat.reduceEqDiff, ↓reduceIte, reduceCtorEq, Nat.reduceAdd, Nat.reduceSub, Nat.reduceMul, Nat.reduceLT, Nat.reduceLeDiff, Int.reduceAdd, Int.reduceSub, Int.reduceMul, Int.reduceLT, Int.reduceLE, Int.reduceEq, Int.reduceNeg, Int.reduceNe, Int.reduceGE, Int.reduceGT, Nat.reduceBEq, Int.reduceToNat]
              all_goals simp
          · have e0 : arr0 ⟨c0, c1, x, y, n :: r, q1⟩ 0 = ⟨3, 2, true⟩ := ha
            simp only [go_sem, hG, hP, Nat.reduceEqDiff, ↓reduceIte, reduceCtorEq, Nat.reduceAdd, Nat.reduceSub, Nat.reduceMul, Nat.reduceLT, Nat.reduceLeDiff, Int.reduceAdd, Int.reduceSub, Int.reduceMul, Int.reduceLT, Int.reduceLE, Int.reduceEq, Int.reduceNeg, Int.reduceNe, Int.reduceGE, Int.reduceGT, Nat.reduceBEq, Int.reduceToNat,  spToTr_f, spToTr_t, spTrOk_f, spTrOk_t, spIn_f, spIn_t, spPut_f, spPut_t, spOwner_f, spOwner_t, spArrive_f, spArrive_t, takeA6_eq, hT, ha, hxx, cast_succ_ne, cast_succ_sub, cast_one_le, getD_cons0]
            (try simp (disch := omega) only [wrap_id])
            repeat (refine And.intro (by first | omega | (simp; done) | (simp; omega) | (unfold appRoom; omega)) ?_)
            refine ⟨fun hq => ?_, fun hq => ?_⟩
            · rw [carry_no (t := ⟨c0, c1, x, y, n :: r, q1⟩) (s := 0) (fun e => e.2.2.2.1 ⟨by rw [e0]; simp, (congrArg (Nat.cast (R := Int)) hq)⟩)] at h
              refine ⟨_, _, _, ?_, h⟩
              simp only [trA_eq, trL_eq]
              simp only [go_sem, hG, hP, Nat.reduceEqDiff, ↓reduceIte, reduceCtorEq, Nat.reduceAdd, Nat.reduceSub, Nat.reduceMul, Nat.reduceLT, Nat.reduceLeDiff, Int.reduceAdd, Int.reduceSub, Int.reduceMul, Int.reduceLT, Int.reduceLE, Int.reduceEq, Int.reduceNeg, Int.reduceNe, Int.reduceGE, Int.reduceGT, Nat.reduceBEq, Int.reduceToNat]
              all_goals simp
            · have hq : ¬ ((q1.length : Nat) : Int) = 60 := fun e => hq (Int.ofNat.inj e)
              repeat (refine And.intro (by first | omega | (simp; done) | (simp; omega) | (unfold appRoom; omega)) ?_)
              refine ⟨fun hx => ?_, fun hx => ?_⟩
              · rw [carry_no (t := ⟨c0, c1, x, y, n :: r, q1⟩) (s := 0) (fun e => e.2.2.2.2 ⟨by rw [e0], hx⟩)] at h
                refine ⟨_, _, _, ?_, h⟩
                simp only [trA_eq, trL_eq]
                simp only [go_sem, hG, hP, Nat.reduceEqDiff, ↓reduceIte, reduceCtorEq, Nat.reduceAdd, Nat.reduceSub, Nat.reduceMul, Nat.reduceLT, Nat.reduceLeDiff, Int.reduceAdd, Int.reduceSub, Int.reduceMul, Int.reduceLT, Int.reduceLE, Int.reduceEq, Int.reduceNeg, Int.reduceNe, Int.reduceGE, Int.reduceGT, Nat.reduceBEq, Int.reduceToNat]
                all_goals simp
              · skip
                have ec : carried ⟨c0, c1, x, y, n :: r, q1⟩ 0 = ⟨c0.set n.circuit.toNat 3, c1, x + 1, y, r, q1 ++ [⟨2, n.circuit⟩]⟩ := by unfold carried; rw [e0]; rfl
                rw [carry_yes (t := ⟨c0, c1, x, y, n :: r, q1⟩) (s := 0) ⟨hT, by omega, List.cons_ne_nil _ _, fun e => hq e.2, fun e => hx e.2⟩, ec] at h
                refine ⟨_, _, _, ?_, h⟩
                simp only [trA_eq, trL_eq]
                simp only [go_sem, hG, hP, Nat.reduceEqDiff, ↓reduceIte, reduceCtorEq, Nat.reduceAdd, Nat.reduceSub, Nat.reduceMul, Nat.reduceLT, Nat.reduceLeDiff, Int.reduceAdd, Int.reduceSub, Int.reduceMul, Int.reduceLT, Int.reduceLE, Int.reduceEq, Int.reduceNeg, Int.reduceNe, Int.reduceGE, Int.reduceGT, Nat.reduceBEq, Int.reduceToNat]
                all_goals simp
          · have e0 : arr0 ⟨c0, c1, x, y, n :: r, q1⟩ 0 = ⟨c0.getD n.circuit.toNat 0, 3, false⟩ := ha
            simp only [go_sem, hG, hP, Nat.reduceEqDiff, ↓reduceIte, reduceCtorEq, Nat.reduceAdd, Nat.reduceSub, Nat.reduceMul, Nat.reduceLT, Nat.reduceLeDiff, Int.reduceAdd, Int.reduceSub, Int.reduceMul, Int.reduceLT, Int.reduceLE, Int.reduceEq, Int.reduceNeg, Int.reduceNe, Int.reduceGE, Int.reduceGT, Nat.reduceBEq, Int.reduceToNat,  spToTr_f, spToTr_t, spTrOk_f, spTrOk_t, spIn_f, spIn_t, spPut_f, spPut_t, spOwner_f, spOwner_t, spArrive_f, spArrive_t, takeA6_eq, hT, ha, hxx, cast_succ_ne, cast_succ_sub, cast_one_le, getD_cons0]
            (try simp (disch := omega) only [wrap_id])
            repeat (refine And.intro (by first | omega | (simp; done) | (simp; omega) | (unfold appRoom; omega)) ?_)
            refine ⟨fun hq => ?_, fun hq => ?_⟩
            · rw [carry_no (t := ⟨c0, c1, x, y, n :: r, q1⟩) (s := 0) (fun e => e.2.2.2.1 ⟨by rw [e0]; simp, (congrArg (Nat.cast (R := Int)) hq)⟩)] at h
              refine ⟨_, _, _, ?_, h⟩
              simp only [trA_eq, trL_eq]
              simp only [go_sem, hG, hP, Nat.reduceEqDiff, ↓reduceIte, reduceCtorEq, Nat.reduceAdd, Nat.reduceSub, Nat.reduceMul, Nat.reduceLT, Nat.reduceLeDiff, Int.reduceAdd, Int.reduceSub, Int.reduceMul, Int.reduceLT, Int.reduceLE, Int.reduceEq, Int.reduceNeg, Int.reduceNe, Int.reduceGE, Int.reduceGT, Nat.reduceBEq, Int.reduceToNat]
              all_goals simp
            · have hq : ¬ ((q1.length : Nat) : Int) = 60 := fun e => hq (Int.ofNat.inj e)
              repeat (refine And.intro (by first | omega | (simp; done) | (simp; omega) | (unfold appRoom; omega)) ?_)
              have ec : carried ⟨c0, c1, x, y, n :: r, q1⟩ 0 = ⟨c0.set n.circuit.toNat (c0.getD n.circuit.toNat 0), c1, x, y, r, q1 ++ [⟨3, n.circuit⟩]⟩ := by unfold carried; rw [e0]; rfl
              rw [carry_yes (t := ⟨c0, c1, x, y, n :: r, q1⟩) (s := 0) ⟨hT, by omega, List.cons_ne_nil _ _, fun e => hq e.2, fun e => by rw [e0] at e; cases e.1⟩, ec] at h
              refine ⟨_, _, _, ?_, h⟩
              simp only [trA_eq, trL_eq]
              simp only [go_sem, hG, hP, Nat.reduceEqDiff, ↓reduceIte, reduceCtorEq, Nat.reduceAdd, Nat.reduceSub, Nat.reduceMul, Nat.reduceLT, Nat.reduceLeDiff, Int.reduceAdd, Int.reduceSub, Int.reduceMul, Int.reduceLT, Int.reduceLE, Int.reduceEq, Int.reduceNeg, Int.reduceNe, Int.reduceGE, Int.reduceGT, Nat.reduceBEq, Int.reduceToNat]
              all_goals simp
          · have e0 : arr0 ⟨c0, c1, x, y, n :: r, q1⟩ 0 = ⟨c0.getD n.circuit.toNat 0, 3, false⟩ := ha
            simp only [go_sem, hG, hP, Nat.reduceEqDiff, ↓reduceIte, reduceCtorEq, Nat.reduceAdd, Nat.reduceSub, Nat.reduceMul, Nat.reduceLT, Nat.reduceLeDiff, Int.reduceAdd, Int.reduceSub, Int.reduceMul, Int.reduceLT, Int.reduceLE, Int.reduceEq, Int.reduceNeg, Int.reduceNe, Int.reduceGE, Int.reduceGT, Nat.reduceBEq, Int.reduceToNat,  spToTr_f, spToTr_t, spTrOk_f, spTrOk_t, spIn_f, spIn_t, spPut_f, spPut_t, spOwner_f, spOwner_t, spArrive_f, spArrive_t, takeA6_eq, hT, ha, hxx, cast_succ_ne, cast_succ_sub, cast_one_le, getD_cons0]
            (try simp (disch := omega) only [wrap_id])
            repeat (refine And.intro (by first | omega | (simp; done) | (simp; omega) | (unfold appRoom; omega)) ?_)
            refine ⟨fun hq => ?_, fun hq => ?_⟩
            · rw [carry_no (t := ⟨c0, c1, x, y, n :: r, q1⟩) (s := 0) (fun e => e.2.2.2.1 ⟨by rw [e0]; simp, (congrArg (Nat.cast (R := Int)) hq)⟩)] at h
              refine ⟨_, _, _, ?_, h⟩
              simp only [trA_eq, trL_eq]
              simp only [go_sem, hG, hP, Nat.reduceEqDiff, ↓reduceIte, reduceCtorEq, Nat.reduceAdd, Nat.reduceSub, Nat.reduceMul, Nat.reduceLT, Nat.reduceLeDiff, Int.reduceAdd, Int.reduceSub, Int.reduceMul, Int.reduceLT, Int.reduceLE, Int.reduceEq, Int.reduceNeg, Int.reduceNe, Int.reduceGE, Int.reduceGT, Nat.reduceBEq, Int.reduceToNat]
              all_goals simp
            · have hq : ¬ ((q1.length : Nat) : Int) = 60 := fun e => hq (Int.ofNat.inj e)
              repeat (refine And.intro (by first | omega | (simp; done) | (simp; omega) | (unfold appRoom; omega)) ?_)
              have ec : carried ⟨c0, c1, x, y, n :: r, q1⟩ 0 = ⟨c0.set n.circuit.toNat (c0.getD n.circuit.toNat 0), c1, x, y, r, q1 ++ [⟨3, n.circuit⟩]⟩ := by unfold carried; rw [e0]; rfl
              rw [carry_yes (t := ⟨c0, c1, x, y, n :: r, q1⟩) (s := 0) ⟨hT, by omega, List.cons_ne_nil _ _, fun e => hq e.2, fun e => by rw [e0] at e; cases e.1⟩, ec] at h
              refine ⟨_, _, _, ?_, h⟩
              simp only [trA_eq, trL_eq]
              simp only [go_sem, hG, hP, Nat.reduceEqDiff, ↓reduceIte, reduceCtorEq, Nat.reduceAdd, Nat.reduceSub, Nat.reduceMul, Nat.reduceLT, Nat.reduceLeDiff, Int.reduceAdd, Int.reduceSub, Int.reduceMul, Int.reduceLT, Int.reduceLE, Int.reduceEq, Int.reduceNeg, Int.reduceNe, Int.reduceGE, Int.reduceGT, Nat.reduceBEq, Int.reduceToNat]
              all_goals simp
          · have e0 : arr0 ⟨c0, c1, x, y, n :: r, q1⟩ 0 = ⟨2, 0, false⟩ := ha
            simp only [go_sem, hG, hP, Nat.reduceEqDiff, ↓reduceIte, reduceCtorEq, Nat.reduceAdd, Nat.reduceSub, Nat.reduceMul, Nat.reduceLT, Nat.reduceLeDiff, Int.reduceAdd, Int.reduceSub, Int.reduceMul, Int.reduceLT, Int.reduceLE, Int.reduceEq, Int.reduceNeg, Int.reduceNe, Int.reduceGE, Int.reduceGT, Nat.reduceBEq, Int.reduceToNat,  spToTr_f, spToTr_t, spTrOk_f, spTrOk_t, spIn_f, spIn_t, spPut_f, spPut_t, spOwner_f, spOwner_t, spArrive_f, spArrive_t, takeA6_eq, hT, ha, hxx, cast_succ_ne, cast_succ_sub, cast_one_le, getD_cons0]
            (try simp (disch := omega) only [wrap_id])
            repeat (refine And.intro (by first | omega | (simp; done) | (simp; omega) | (unfold appRoom; omega)) ?_)
            have ec : carried ⟨c0, c1, x, y, n :: r, q1⟩ 0 = ⟨c0.set n.circuit.toNat 2, c1, x, y, r, q1⟩ := by unfold carried; rw [e0]; rfl
            rw [carry_yes (t := ⟨c0, c1, x, y, n :: r, q1⟩) (s := 0) ⟨hT, by omega, List.cons_ne_nil _ _, fun e => by rw [e0] at e; exact absurd e.1 (by simp), fun e => by rw [e0] at e; cases e.1⟩, ec] at h
            refine ⟨_, _, _, ?_, h⟩
            simp only [trA_eq, trL_eq]
            simp only [go_sem, hG, hP, Nat.reduceEqDiff, ↓reduceIte, reduceCtorEq, Nat.reduceAdd, Nat.reduceSub, Nat.reduceMul, Nat.reduceLT, Nat.reduceLeDiff, Int.reduceAdd, Int.reduceSub, Int.reduceMul, Int.reduceLT, Int.reduceLE, Int.reduceEq, Int.reduceNeg, Int.reduceNe, Int.reduceGE, Int.reduceGT, Nat.reduceBEq, Int.reduceToNat]
            all_goals simp
          · have e0 : arr0 ⟨c0, c1, x, y, n :: r, q1⟩ 0 = ⟨c0.getD n.circuit.toNat 0, 0, false⟩ := ha
            simp only [go_sem, hG, hP, Nat.reduceEqDiff, ↓reduceIte, reduceCtorEq, Nat.reduceAdd, Nat.reduceSub, Nat.reduceMul, Nat.reduceLT, Nat.reduceLeDiff, Int.reduceAdd, Int.reduceSub, Int.reduceMul, Int.reduceLT, Int.reduceLE, Int.reduceEq, Int.reduceNeg, Int.reduceNe, Int.reduceGE, Int.reduceGT, Nat.reduceBEq, Int.reduceToNat,  spToTr_f, spToTr_t, spTrOk_f, spTrOk_t, spIn_f, spIn_t, spPut_f, spPut_t, spOwner_f, spOwner_t, spArrive_f, spArrive_t, takeA6_eq, hT, ha, hxx, cast_succ_ne, cast_succ_sub, cast_one_le, getD_cons0]
            (try simp (disch := omega) only [wrap_id])
            repeat (refine And.intro (by first | omega | (simp; done) | (simp; omega) | (unfold appRoom; omega)) ?_)
            have ec : carried ⟨c0, c1, x, y, n :: r, q1⟩ 0 = ⟨c0.set n.circuit.toNat (c0.getD n.circuit.toNat 0), c1, x, y, r, q1⟩ := by unfold carried; rw [e0]; rfl
            rw [carry_yes (t := ⟨c0, c1, x, y, n :: r, q1⟩) (s := 0) ⟨hT, by omega, List.cons_ne_nil _ _, fun e => by rw [e0] at e; exact absurd e.1 (by simp), fun e => by rw [e0] at e; cases e.1⟩, ec] at h
            refine ⟨_, _, _, ?_, h⟩
            simp only [trA_eq, trL_eq]
            simp only [go_sem, hG, hP, Nat.reduceEqDiff, ↓reduceIte, reduceCtorEq, Nat.reduceAdd, Nat.reduceSub, Nat.reduceMul, Nat.reduceLT, Nat.reduceLeDiff, Int.reduceAdd, Int.reduceSub, Int.reduceMul, Int.reduceLT, Int.reduceLE, Int.reduceEq, Int.reduceNeg, Int.reduceNe, Int.reduceGE, Int.reduceGT, Nat.reduceBEq, Int.reduceToNat]
            all_goals simp
          · have e0 : arr0 ⟨c0, c1, x, y, n :: r, q1⟩ 0 = ⟨0, 0, true⟩ := ha
            simp only [go_sem, hG, hP, Nat.reduceEqDiff, ↓reduceIte, reduceCtorEq, Nat.reduceAdd, Nat.reduceSub, Nat.reduceMul, Nat.reduceLT, Nat.reduceLeDiff, Int.reduceAdd, Int.reduceSub, Int.reduceMul, Int.reduceLT, Int.reduceLE, Int.reduceEq, Int.reduceNeg, Int.reduceNe, Int.reduceGE, Int.reduceGT, Nat.reduceBEq, Int.reduceToNat,  spToTr_f, spToTr_t, spTrOk_f, spTrOk_t, spIn_f, spIn_t, spPut_f, spPut_t, spOwner_f, spOwner_t, spArrive_f, spArrive_t, takeA6_eq, hT, ha, hxx, cast_succ_ne, cast_succ_sub, cast_one_le, getD_cons0]
            (try simp (disch := omega) only [wrap_id])
            repeat (refine And.intro (by first | omega | (simp; done) | (simp; omega) | (unfold appRoom; omega)) ?_)
            refine ⟨fun hx => ?_, fun hx => ?_⟩
            · rw [carry_no (t := ⟨c0, c1, x, y, n :: r, q1⟩) (s := 0) (fun e => e.2.2.2.2 ⟨by rw [e0], hx⟩)] at h
              refine ⟨_, _, _, ?_, h⟩
              simp only [trA_eq, trL_eq]
              simp only [go_sem, hG, hP, Nat.reduceEqDiff, ↓reduceIte, reduceCtorEq, Nat.reduceAdd, Nat.reduceSub, Nat.reduceMul, Nat.reduceLT, Nat.reduceLeDiff, Int.reduceAdd, Int.reduceSub, Int.reduceMul, Int.reduceLT, Int.reduceLE, Int.reduceEq, Int.reduceNeg, Int.reduceNe, Int.reduceGE, Int.reduceGT, Nat.reduceBEq, Int.reduceToNat]
              all_goals simp
            · skip
              have ec : carried ⟨c0, c1, x, y, n :: r, q1⟩ 0 = ⟨c0.set n.circuit.toNat 0, c1, x + 1, y, r, q1⟩ := by unfold carried; rw [e0]; rfl
              rw [carry_yes (t := ⟨c0, c1, x, y, n :: r, q1⟩) (s := 0) ⟨hT, by omega, List.cons_ne_nil _ _, fun e => by rw [e0] at e; exact absurd e.1 (by simp), fun e => hx e.2⟩, ec] at h
              refine ⟨_, _, _, ?_, h⟩
              simp only [trA_eq, trL_eq]
              simp only [go_sem, hG, hP, Nat.reduceEqDiff, ↓reduceIte, reduceCtorEq, Nat.reduceAdd, Nat.reduceSub, Nat.reduceMul, Nat.reduceLT, Nat.reduceLeDiff, Int.reduceAdd, Int.reduceSub, Int.reduceMul, Int.reduceLT, Int.reduceLE, Int.reduceEq, Int.reduceNeg, Int.reduceNe, Int.reduceGE, Int.reduceGT, Nat.reduceBEq, Int.reduceToNat]
              all_goals simp
          · have e0 : arr0 ⟨c0, c1, x, y, n :: r, q1⟩ 0 = ⟨c0.getD n.circuit.toNat 0, 0, false⟩ := ha
            simp only [go_sem, hG, hP, Nat.reduceEqDiff, ↓reduceIte, reduceCtorEq, Nat.reduceAdd, Nat.reduceSub, Nat.reduceMul, Nat.reduceLT, Nat.reduceLeDiff, Int.reduceAdd, Int.reduceSub, Int.reduceMul, Int.reduceLT, Int.reduceLE, Int.reduceEq, Int.reduceNeg, Int.reduceNe, Int.reduceGE, Int.reduceGT, Nat.reduceBEq, Int.reduceToNat,  spToTr_f, spToTr_t, spTrOk_f, spTrOk_t, spIn_f, spIn_t, spPut_f, spPut_t, spOwner_f, spOwner_t, spArrive_f, spArrive_t, takeA6_eq, hT, ha, hxx, cast_succ_ne, cast_succ_sub, cast_one_le, getD_cons0]
            (try simp (disch := omega) only [wrap_id])
            repeat (refine And.intro (by first | omega | (simp; done) | (simp; omega) | (unfold appRoom; omega)) ?_)
            have ec : carried ⟨c0, c1, x, y, n :: r, q1⟩ 0 = ⟨c0.set n.circuit.toNat (c0.getD n.circuit.toNat 0), c1, x, y, r, q1⟩ := by unfold carried; rw [e0]; rfl
            rw [carry_yes (t := ⟨c0, c1, x, y, n :: r, q1⟩) (s := 0) ⟨hT, by omega, List.cons_ne_nil _ _, fun e => by rw [e0] at e; exact absurd e.1 (by simp), fun e => by rw [e0] at e; cases e.1⟩, ec] at h
            refine ⟨_, _, _, ?_, h⟩
            simp only [trA_eq, trL_eq]
            simp only [go_sem, hG, hP, Nat.reduceEqDiff, ↓reduceIte, reduceCtorEq, Nat.reduceAdd, Nat.reduceSub, Nat.reduceMul, Nat.reduceLT, Nat.reduceLeDiff, Int.reduceAdd, Int.reduceSub, Int.reduceMul, Int.reduceLT, Int.reduceLE, Int.reduceEq, Int.reduceNeg, Int.reduceNe, Int.reduceGE, Int.reduceGT, Nat.reduceBEq, Int.reduceToNat]
            all_goals simp
          · have e0 : arr0 ⟨c0, c1, x, y, n :: r, q1⟩ 0 = ⟨0, 5, false⟩ := ha
            simp only [go_sem, hG, hP, Nat.reduceEqDiff, ↓reduceIte, reduceCtorEq, Nat.reduceAdd, Nat.reduceSub, Nat.reduceMul, Nat.reduceLT, Nat.reduceLeDiff, Int.reduceAdd, Int.reduceSub, Int.reduceMul, Int.reduceLT, Int.reduceLE, Int.reduceEq, Int.reduceNeg, Int.reduceNe, Int.reduceGE, Int.reduceGT, Nat.reduceBEq, Int.reduceToNat,  spToTr_f, spToTr_t, spTrOk_f, spTrOk_t, spIn_f, spIn_t, spPut_f, spPut_t, spOwner_f, spOwner_t, spArrive_f, spArrive_t, takeA6_eq, hT, ha, hxx, cast_succ_ne, cast_succ_sub, cast_one_le, getD_cons0]
            (try simp (disch := omega) only [wrap_id])
            repeat (refine And.intro (by first | omega | (simp; done) | (simp; omega) | (unfold appRoom; omega)) ?_)
            refine ⟨fun hq => ?_, fun hq => ?_⟩
            · rw [carry_no (t := ⟨c0, c1, x, y, n :: r, q1⟩) (s := 0) (fun e => e.2.2.2.1 ⟨by rw [e0]; simp, (congrArg (Nat.cast (R := Int)) hq)⟩)] at h
              refine ⟨_, _, _, ?_, h⟩
              simp only [trA_eq, trL_eq]
              simp only [go_sem, hG, hP, Nat.reduceEqDiff, ↓reduceIte, reduceCtorEq, Nat.reduceAdd, Nat.reduceSub, Nat.reduceMul, Nat.reduceLT, Nat.reduceLeDiff, Int.reduceAdd, Int.reduceSub, Int.reduceMul, Int.reduceLT, Int.reduceLE, Int.reduceEq, Int.reduceNeg, Int.reduceNe, Int.reduceGE, Int.reduceGT, Nat.reduceBEq, Int.reduceToNat]
              all_goals simp
            · have hq : ¬ ((q1.length : Nat) : Int) = 60 := fun e => hq (Int.ofNat.inj e)
              repeat (refine And.intro (by first | omega | (simp; done) | (simp; omega) | (unfold appRoom; omega)) ?_)
              have ec : carried ⟨c0, c1, x, y, n :: r, q1⟩ 0 = ⟨c0.set n.circuit.toNat 0, c1, x, y, r, q1 ++ [⟨5, n.circuit⟩]⟩ := by unfold carried; rw [e0]; rfl
              rw [carry_yes (t := ⟨c0, c1, x, y, n :: r, q1⟩) (s := 0) ⟨hT, by omega, List.cons_ne_nil _ _, fun e => hq e.2, fun e => by rw [e0] at e; cases e.1⟩, ec] at h
              refine ⟨_, _, _, ?_, h⟩
              simp only [trA_eq, trL_eq]
              simp only [go_sem, hG, hP, Nat.reduceEqDiff, ↓reduceIte, reduceCtorEq, Nat.reduceAdd, Nat.reduceSub, Nat.reduceMul, Nat.reduceLT, Nat.reduceLeDiff, Int.reduceAdd, Int.reduceSub, Int.reduceMul, Int.reduceLT, Int.reduceLE, Int.reduceEq, Int.reduceNeg, Int.reduceNe, Int.reduceGE, Int.reduceGT, Nat.reduceBEq, Int.reduceToNat]
              all_goals simp
          · have e0 : arr0 ⟨c0, c1, x, y, n :: r, q1⟩ 0 = ⟨c0.getD n.circuit.toNat 0, 5, false⟩ := ha
            simp only [go_sem, hG, hP, Nat.reduceEqDiff, ↓reduceIte, reduceCtorEq, Nat.reduceAdd, Nat.reduceSub, Nat.reduceMul, Nat.reduceLT, Nat.reduceLeDiff, Int.reduceAdd, Int.reduceSub, Int.reduceMul, Int.reduceLT, Int.reduceLE, Int.reduceEq, Int.reduceNeg, Int.reduceNe, Int.reduceGE, Int.reduceGT, Nat.reduceBEq, Int.reduceToNat,  spToTr_f, spToTr_t, spTrOk_f, spTrOk_t, spIn_f, spIn_t, spPut_f, spPut_t, spOwner_f, spOwner_t, spArrive_f, spArrive_t, takeA6_eq, hT, ha, hxx, cast_succ_ne, cast_succ_sub, cast_one_le, getD_cons0]
            (try simp (disch := omega) only [wrap_id])
            repeat (refine And.intro (by first | omega | (simp; done) | (simp; omega) | (unfold appRoom; omega)) ?_)
            refine ⟨fun hq => ?_, fun hq => ?_⟩
            · rw [carry_no (t := ⟨c0, c1, x, y, n :: r, q1⟩) (s := 0) (fun e => e.2.2.2.1 ⟨by rw [e0]; simp, (congrArg (Nat.cast (R := Int)) hq)⟩)] at h
              refine ⟨_, _, _, ?_, h⟩
              simp only [trA_eq, trL_eq]
              simp only [go_sem, hG, hP, Nat.reduceEqDiff, ↓reduceIte, reduceCtorEq, Nat.reduceAdd, Nat.reduceSub, Nat.reduceMul, Nat.reduceLT, Nat.reduceLeDiff, Int.reduceAdd, Int.reduceSub, Int.reduceMul, Int.reduceLT, Int.reduceLE, Int.reduceEq, Int.reduceNeg, Int.reduceNe, Int.reduceGE, Int.reduceGT, Nat.reduceBEq, Int.reduceToNat]
              all_goals simp
            · have hq : ¬ ((q1.length : Nat) : Int) = 60 := fun e => hq (Int.ofNat.inj e)
              repeat (refine And.intro (by first | omega | (simp; done) | (simp; omega) | (unfold appRoom; omega)) ?_)
              have ec : carried ⟨c0, c1, x, y, n :: r, q1⟩ 0 = ⟨c0.set n.circuit.toNat (c0.getD n.circuit.toNat 0), c1, x, y, r, q1 ++ [⟨5, n.circuit⟩]⟩ := by unfold carried; rw [e0]; rfl
              rw [carry_yes (t := ⟨c0, c1, x, y, n :: r, q1⟩) (s := 0) ⟨hT, by omega, List.cons_ne_nil _ _, fun e => hq e.2, fun e => by rw [e0] at e; cases e.1⟩, ec] at h
              refine ⟨_, _, _, ?_, h⟩
              simp only [trA_eq, trL_eq]
              simp only [go_sem, hG, hP, Nat.reduceEqDiff, ↓reduceIte, reduceCtorEq, Nat.reduceAdd, Nat.reduceSub, Nat.reduceMul, Nat.reduceLT, Nat.reduceLeDiff, Int.reduceAdd, Int.reduceSub, Int.reduceMul, Int.reduceLT, Int.reduceLE, Int.reduceEq, Int.reduceNeg, Int.reduceNe, Int.reduceGE, Int.reduceGT, Nat.reduceBEq, Int.reduceToNat]
              all_goals simp
          · have e0 : arr0 ⟨c0, c1, x, y, n :: r, q1⟩ 0 = ⟨0, 0, false⟩ := ha
            simp only [go_sem, hG, hP, Nat.reduceEqDiff, ↓reduceIte, reduceCtorEq, Nat.reduceAdd, Nat.reduceSub, Nat.reduceMul, Nat.reduceLT, Nat.reduceLeDiff, Int.reduceAdd, Int.reduceSub, Int.reduceMul, Int.reduceLT, Int.reduceLE, Int.reduceEq, Int.reduceNeg, Int.reduceNe, Int.reduceGE, Int.reduceGT, Nat.reduceBEq, Int.reduceToNat,  spToTr_f, spToTr_t, spTrOk_f, spTrOk_t, spIn_f, spIn_t, spPut_f, spPut_t, spOwner_f, spOwner_t, spArrive_f, spArrive_t, takeA6_eq, hT, ha, hxx, cast_succ_ne, cast_succ_sub, cast_one_le, getD_cons0]
            (try simp (disch := omega) only [wrap_id])
            repeat (refine And.intro (by first | omega | (simp; done) | (simp; omega) | (unfold appRoom; omega)) ?_)
            have ec : carried ⟨c0, c1, x, y, n :: r, q1⟩ 0 = ⟨c0.set n.circuit.toNat 0, c1, x, y, r, q1⟩ := by unfold carried; rw [e0]; rfl
            rw [carry_yes (t := ⟨c0, c1, x, y, n :: r, q1⟩) (s := 0) ⟨hT, by omega, List.cons_ne_nil _ _, fun e => by rw [e0] at e; exact absurd e.1 (by simp), fun e => by rw [e0] at e; cases e.1⟩, ec] at h
            refine ⟨_, _, _, ?_, h⟩
            simp only [trA_eq, trL_eq]
            simp only [go_sem, hG, hP, Nat.reduceEqDiff, ↓reduceIte, reduceCtorEq, Nat.reduceAdd, Nat.reduceSub, Nat.reduceMul, Nat.reduceLT, Nat.reduceLeDiff, Int.reduceAdd, Int.reduceSub, Int.reduceMul, Int.reduceLT, Int.reduceLE, Int.reduceEq, Int.reduceNeg, Int.reduceNe, Int.reduceGE, Int.reduceGT, Nat.reduceBEq, Int.reduceToNat]
            all_goals simp
          · have e0 : arr0 ⟨c0, c1, x, y, n :: r, q1⟩ 0 = ⟨c0.getD n.circuit.toNat 0, 0, false⟩ := ha
            simp only [go_sem, hG, hP, Nat.reduceEqDiff, ↓reduceIte, reduceCtorEq, Nat.reduceAdd, Nat.reduceSub, Nat.reduceMul, Nat.reduceLT, Nat.reduceLeDiff, Int.reduceAdd, Int.reduceSub, Int.reduceMul, Int.reduceLT, Int.reduceLE, Int.reduceEq, Int.reduceNeg, Int.reduceNe, Int.reduceGE, Int.reduceGT, Nat.reduceBEq, Int.reduceToNat,  spToTr_f, spToTr_t, spTrOk_f, spTrOk_t, spIn_f, spIn_t, spPut_f, spPut_t, spOwner_f, spOwner_t, spArrive_f, spArrive_t, takeA6_eq, hT, ha, hxx, cast_succ_ne, cast_succ_sub, cast_one_le, getD_cons0]
            (try simp (disch := omega) only [wrap_id])
            repeat (refine And.intro (by first | omega | (simp; done) | (simp; omega) | (unfold appRoom; omega)) ?_)
            have ec : carried ⟨c0, c1, x, y, n :: r, q1⟩ 0 = ⟨c0.set n.circuit.toNat (c0.getD n.circuit.toNat 0), c1, x, y, r, q1⟩ := by unfold carried; rw [e0]; rfl
            rw [carry_yes (t := ⟨c0, c1, x, y, n :: r, q1⟩) (s := 0) ⟨hT, by omega, List.cons_ne_nil _ _, fun e => by rw [e0] at e; exact absurd e.1 (by simp), fun e => by rw [e0] at e; cases e.1⟩, ec] at h
            refine ⟨_, _, _, ?_, h⟩
            simp only [trA_eq, trL_eq]
            simp only [go_sem, hG, hP, Nat.reduceEqDiff, ↓reduceIte, reduceCtorEq, Nat.reduceAdd, Nat.reduceSub, Nat.reduceMul, Nat.reduceLT, Nat.reduceLeDiff, Int.reduceAdd, Int.reduceSub, Int.reduceMul, Int.reduceLT, Int.reduceLE, Int.reduceEq, Int.reduceNeg, Int.reduceNe, Int.reduceGE, Int.reduceGT, Nat.reduceBEq, Int.reduceToNat]
            all_goals simp
        · simp only [go_sem, hG, hP, Nat.reduceEqDiff, ↓reduceIte, reduceCtorEq, Nat.reduceAdd, Nat.reduceSub, Nat.reduceMul, Nat.reduceLT, Nat.reduceLeDiff, Int.reduceAdd, Int.reduceSub, Int.reduceMul, Int.reduceLT, Int.reduceLE, Int.reduceEq, Int.reduceNeg, Int.reduceNe, Int.reduceGE, Int.reduceGT, Nat.reduceBEq, Int.reduceToNat,  spToTr_f, spToTr_t, spTrOk_f, spTrOk_t, spIn_f, spIn_t, spPut_f, spPut_t, spOwner_f, spOwner_t, spArrive_f, spArrive_t, takeA6_eq, hT]
          repeat (refine And.intro (by first | omega | (simp; done) | (simp; omega) | (unfold appRoom; omega)) ?_)
          rw [carry_no (t := ⟨c0, c1, x, y, n :: r, q1⟩) (s := 0) (fun e => hT e.1)] at h
          refine ⟨_, _, _, ?_, h⟩
          simp only [trA_eq, trL_eq]
          simp only [go_sem, hG, hP, Nat.reduceEqDiff, ↓reduceIte, reduceCtorEq, Nat.reduceAdd, Nat.reduceSub, Nat.reduceMul, Nat.reduceLT, Nat.reduceLeDiff, Int.reduceAdd, Int.reduceSub, Int.reduceMul, Int.reduceLT, Int.reduceLE, Int.reduceEq, Int.reduceNeg, Int.reduceNe, Int.reduceGE, Int.reduceGT, Nat.reduceBEq, Int.reduceToNat]
          all_goals simp
    · subst hs
      rcases q1 with _ | ⟨n, r⟩
      · simp only [go_sem, hG, hP, Nat.reduceEqDiff, ↓reduceIte, reduceCtorEq, Nat.reduceAdd, Nat.reduceSub, Nat.reduceMul, Nat.reduceLT, Nat.reduceLeDiff, Int.reduceAdd, Int.reduceSub, Int.reduceMul, Int.reduceLT, Int.reduceLE, Int.reduceEq, Int.reduceNeg, Int.reduceNe, Int.reduceGE, Int.reduceGT, Nat.reduceBEq, Int.reduceToNat,  spToTr_f, spToTr_t, spTrOk_f, spTrOk_t, spIn_f, spIn_t, spPut_f, spPut_t, spOwner_f, spOwner_t, spArrive_f, spArrive_t, takeA6_eq]
        repeat (refine And.intro (by first | omega | (simp; done) | (simp; omega) | (unfold appRoom; omega)) ?_)
        rw [carry_no (t := ⟨c0, c1, x, y, q0, []⟩) (s := 1) (fun e => e.2.2.1 rfl)] at h
        refine ⟨fun hT => ⟨_, _, _, ?_, h⟩, fun hT => ⟨_, _, _, ?_, h⟩⟩
        · simp only [trA_eq, trL_eq]
          simp only [go_sem, hG, hP, Nat.reduceEqDiff, ↓reduceIte, reduceCtorEq, Nat.reduceAdd, Nat.reduceSub, Nat.reduceMul, Nat.reduceLT, Nat.reduceLeDiff, Int.reduceAdd, Int.reduceSub, Int.reduceMul, Int.reduceLT, Int.reduceLE, Int.reduceEq, Int.reduceNeg, Int.reduceNe, Int.reduceGE, Int.reduceGT, Nat.reduceBEq, Int.reduceToNat]
          all_goals simp
        · simp only [trA_eq, trL_eq]
          simp only [go_sem, hG, hP, Nat.reduceEqDiff, ↓reduceIte, reduceCtorEq, Nat.reduceAdd, Nat.reduceSub, Nat.reduceMul, Nat.reduceLT, Nat.reduceLeDiff, Int.reduceAdd, Int.reduceSub, Int.reduceMul, Int.reduceLT, Int.reduceLE, Int.reduceEq, Int.reduceNeg, Int.reduceNe, Int.reduceGE, Int.reduceGT, Nat.reduceBEq, Int.reduceToNat]
          all_goals simp
      · have b5 : r.length + 1 ≤ 1099511627776 := b4
        by_cases hT : trOk ⟨c0, c1, x, y, q0, n :: r⟩ = true
        · have hn := trOk_n1 hT
          have hL : c0.length = c1.length ∧ 1 ≤ c0.length ∧ c0.length ≤ 24 := trOk_head hT
          have hxx : (y > 1000000) = False := by apply eq_false; omega
          rcases arrive_cases n.kind (c1.getD n.circuit.toNat 0) (decide (n.circuit.tmod 2 = 1)) hn.1 with ⟨hk, h1, ha⟩ | ⟨hk, h1, ho, ha⟩ | ⟨hk, h1, ho, ha⟩ | ⟨hk, h1, h2, ha⟩ | ⟨hk, h1, ha⟩ | ⟨hk, h1, ha⟩ | ⟨hk, h1, ha⟩ | ⟨hk, h1, ha⟩ | ⟨hk, h1, ha⟩ | ⟨hk, h1, ha⟩ | ⟨hk, h1, ha⟩ | ⟨hk, h1, ha⟩
          · have e0 : arr0 ⟨c0, c1, x, y, q0, n :: r⟩ 1 = ⟨3, 2, false⟩ := ha
            simp only [go_sem, hG, hP, Nat.reduceEqDiff, ↓reduceIte, reduceCtorEq, Nat.reduceAdd, Nat.reduceSub, Nat.reduceMul, Nat.reduceLT, Nat.reduceLeDiff, Int.reduceAdd, Int.reduceSub, Int.reduceMul, Int.reduceLT, Int.reduceLE, Int.reduceEq, Int.reduceNeg, Int.reduceNe, Int.reduceGE, Int.reduceGT, Nat.reduceBEq, Int.reduceToNat,  spToTr_f, spToTr_t, spTrOk_f, spTrOk_t, spIn_f, spIn_t, spPut_f, spPut_t, spOwner_f, spOwner_t, spArrive_f, spArrive_t, takeA6_eq, hT, ha, hxx, cast_succ_ne, cast_succ_sub, cast_one_le, getD_cons0]
            (try simp (disch := omega) only [wrap_id])
            repeat (refine And.intro (by first | omega | (simp; done) | (simp; omega) | (unfold appRoom; omega)) ?_)
            refine ⟨fun hq => ?_, fun hq => ?_⟩
            · rw [carry_no (t := ⟨c0, c1, x, y, q0, n :: r⟩) (s := 1) (fun e => e.2.2.2.1 ⟨by rw [e0]; simp, (congrArg (Nat.cast (R := Int)) hq)⟩)] at h
              refine ⟨_, _, _, ?_, h⟩
              simp only [trA_eq, trL_eq]
              simp only [go_sem, hG, hP, Nat.reduceEqDiff, ↓reduceIte, reduceCtorEq, Nat.reduceAdd, Nat.reduceSub, Nat.reduceMul, Nat.reduceLT, Nat.reduceLeDiff, Int.reduceAdd, Int.reduceSub, Int.reduceMul, Int.reduceLT, Int.reduceLE, Int.reduceEq, Int.reduceNeg, Int.reduceNe, Int.reduceGE, Int.reduceGT, Nat.reduceBEq, Int.reduceToNat]
              all_goals simp
            · have hq : ¬ ((q0.length : Nat) : Int) = 60 := fun e => hq (Int.ofNat.inj e)
              repeat (refine And.intro (by first | omega | (simp; done) | (simp; omega) | (unfold appRoom; omega)) ?_)
              have ec : carried ⟨c0, c1, x, y, q0, n :: r⟩ 1 = ⟨c0, c1.set n.circuit.toNat 3, x, y, q0 ++ [⟨2, n.circuit⟩], r⟩ := by unfold carried; rw [e0]; rfl
              rw [carry_yes (t := ⟨c0, c1, x, y, q0, n :: r⟩) (s := 1) ⟨hT, by omega, List.cons_ne_nil _ _, fun e => hq e.2, fun e => by rw [e0] at e; cases e.1⟩, ec] at h
              refine ⟨_, _, _, ?_, h⟩
              simp only [trA_eq, trL_eq]
              simp only [go_sem, hG, hP, Nat.reduceEqDiff, ↓reduceIte, reduceCtorEq, Nat.reduceAdd, Nat.reduceSub, Nat.reduceMul, Nat.reduceLT, Nat.reduceLeDiff, Int.reduceAdd, Int.reduceSub, Int.reduceMul, Int.reduceLT, Int.reduceLE, Int.reduceEq, Int.reduceNeg, Int.reduceNe, Int.reduceGE, Int.reduceGT, Nat.reduceBEq, Int.reduceToNat]
              all_goals simp
          · have e0 : arr0 ⟨c0, c1, x, y, q0, n :: r⟩ 1 = ⟨3, 2, true⟩ := ha
            simp only [go_sem, hG, hP, Nat.reduceEqDiff, ↓reduceIte, reduceCtorEq, Nat.reduceAdd, Nat.reduceSub, Nat.reduceMul, Nat.reduceLT, Nat.reduceLeDiff, Int.reduceAdd, Int.reduceSub, Int.reduceMul, Int.reduceLT, Int.reduceLE, Int.reduceEq, Int.reduceNeg, Int.reduceNe, Int.reduceGE, Int.reduceGT, Nat.reduceBEq, Int.reduceToNat,  spToTr_f, spToTr_t, spTrOk_f, spTrOk_t, spIn_f, spIn_t, spPut_f, spPut_t, spOwner_f, spOwner_t, spArrive_f, spArrive_t, takeA6_eq, hT, ha, hxx, cast_succ_ne, cast_succ_sub, cast_one_le, getD_cons0]
            (try simp (disch := omega) only [wrap_id])
            repeat (refine And.intro (by first | omega | (simp; done) | (simp; omega) | (unfold appRoom; omega)) ?_)
            refine ⟨fun hq => ?_, fun hq => ?_⟩
            · rw [carry_no (t := ⟨c0, c1, x, y, q0, n :: r⟩) (s := 1) (fun e => e.2.2.2.1 ⟨by rw [e0]; simp, (congrArg (Nat.cast (R := Int)) hq)⟩)] at h
              refine ⟨_, _, _, ?_, h⟩
              simp only [trA_eq, trL_eq]
              simp only [go_sem, hG, hP, Nat.reduceEqDiff, ↓reduceIte, reduceCtorEq, Nat.reduceAdd, Nat.reduceSub, Nat.reduceMul, Nat.reduceLT, Nat.reduceLeDiff, Int.reduceAdd, Int.reduceSub, Int.reduceMul, Int.reduceLT, Int.reduceLE, Int.reduceEq, Int.reduceNeg, Int.reduceNe, Int.reduceGE, Int.reduceGT, Nat.reduceBEq, Int.reduceToNat]
              all_goals simp
            · have hq : ¬ ((q0.length : Nat) : Int) = 60 := fun e => hq (Int.ofNat.inj e)
              repeat (refine And.intro (by first | omega | (simp; done) | (simp; omega) | (unfold appRoom; omega)) ?_)
              refine ⟨fun hx => ?_, fun hx => ?_⟩
              · rw [carry_no (t := ⟨c0, c1, x, y, q0, n :: r⟩) (s := 1) (fun e => e.2.2.2.2 ⟨by rw [e0], hx⟩)] at h
                refine ⟨_, _, _, ?_, h⟩
                simp only [trA_eq, trL_eq]
                simp only [go_sem, hG, hP, Nat.reduceEqDiff, ↓reduceIte, reduceCtorEq, Nat.reduceAdd, Nat.reduceSub, Nat.reduceMul, Nat.reduceLT, Nat.reduceLeDiff, Int.reduceAdd, Int.reduceSub, Int.reduceMul, Int.reduceLT, Int.reduceLE, Int.reduceEq, Int.reduceNeg, Int.reduceNe, Int.reduceGE, Int.reduceGT, Nat.reduceBEq, Int.reduceToNat]
                all_goals simp
              · skip
                have ec : carried ⟨c0, c1, x, y, q0, n :: r⟩ 1 = ⟨c0, c1.set n.circuit.toNat 3, x, y + 1, q0 ++ [⟨2, n.circuit⟩], r⟩ := by unfold carried; rw [e0]; rfl
                rw [carry_yes (t := ⟨c0, c1, x, y, q0, n :: r⟩) (s := 1) ⟨hT, by omega, List.cons_ne_nil _ _, fun e => hq e.2, fun e => hx e.2⟩, ec] at h
                refine ⟨_, _, _, ?_, h⟩
                simp only [trA_eq, trL_eq]
                simp only [go_sem, hG, hP, Nat.reduceEqDiff, ↓reduceIte, reduceCtorEq, Nat.reduceAdd, Nat.reduceSub, Nat.reduceMul, Nat.reduceLT, Nat.reduceLeDiff, Int.reduceAdd, Int.reduceSub, Int.reduceMul, Int.reduceLT, Int.reduceLE, Int.reduceEq, Int.reduceNeg, Int.reduceNe, Int.reduceGE, Int.reduceGT, Nat.reduceBEq, Int.reduceToNat]
                all_goals simp
          · have e0 : arr0 ⟨c0, c1, x, y, q0, n :: r⟩ 1 = ⟨c1.getD n.circuit.toNat 0, 3, false⟩ := ha
            simp only [go_sem, hG, hP, Nat.reduceEqDiff, ↓reduceIte, reduceCtorEq, Nat.reduceAdd, Nat.reduceSub, Nat.reduceMul, Nat.reduceLT, Nat.reduceLeDiff, Int.reduceAdd, Int.reduceSub, Int.reduceMul, Int.reduceLT, Int.reduceLE, Int.reduceEq, Int.reduceNeg, Int.reduceNe, Int.reduceGE, Int.reduceGT, Nat.reduceBEq, Int.reduceToNat,  spToTr_f, spToTr_t, spTrOk_f, spTrOk_t, spIn_f, spIn_t, spPut_f, spPut_t, spOwner_f, spOwner_t, spArrive_f, spArrive_t, takeA6_eq, hT, ha, hxx, cast_succ_ne, cast_succ_sub, cast_one_le, getD_cons0]
            (try simp (disch := omega) only [wrap_id])
            repeat (refine And.intro (by first | omega | (simp; done) | (simp; omega) | (unfold appRoom; omega)) ?_)
            refine ⟨fun hq => ?_, fun hq => ?_⟩
            · rw [carry_no (t := ⟨c0, c1, x, y, q0, n :: r⟩) (s := 1) (fun e => e.2.2.2.1 ⟨by rw [e0]; simp, (congrArg (Nat.cast (R := Int)) hq)⟩)] at h
              refine ⟨_, _, _, ?_, h⟩
              simp only [trA_eq, trL_eq]
              simp only [go_sem, hG, hP, Nat.reduceEqDiff, ↓reduceIte, reduceCtorEq, Nat.reduceAdd, Nat.reduceSub, Nat.reduceMul, Nat.reduceLT, Nat.reduceLeDiff, Int.reduceAdd, Int.reduceSub, Int.reduceMul, Int.reduceLT, Int.reduceLE, Int.reduceEq, Int.reduceNeg, Int.reduceNe, Int.reduceGE, Int.reduceGT, Nat.reduceBEq, Int.reduceToNat]
              all_goals simp
            · have hq : ¬ ((q0.length : Nat) : Int) = 60 := fun e => hq (Int.ofNat.inj e)
              repeat (refine And.intro (by first | omega | (simp; done) | (simp; omega) | (unfold appRoom; omega)) ?_)
              have ec : carried ⟨c0, c1, x, y, q0, n :: r⟩ 1 = ⟨c0, c1.set n.circuit.toNat (c1.getD n.circuit.toNat 0), x, y, q0 ++ [⟨3, n.circuit⟩], r⟩ := by unfold carried; rw [e0]; rfl
              rw [carry_yes (t := ⟨c0, c1, x, y, q0, n :: r⟩) (s := 1) ⟨hT, by omega, List.cons_ne_nil _ _, fun e => hq e.2, fun e => by rw [e0] at e; cases e.1⟩, ec] at h
              refine ⟨_, _, _, ?_, h⟩
              simp only [trA_eq, trL_eq]
              simp only [go_sem, hG, hP, Nat.reduceEqDiff, ↓reduceIte, reduceCtorEq, Nat.reduceAdd, Nat.reduceSub, Nat.reduceMul, Nat.reduceLT, Nat.reduceLeDiff, Int.reduceAdd, Int.reduceSub, Int.reduceMul, Int.reduceLT, Int.reduceLE, Int.reduceEq, Int.reduceNeg, Int.reduceNe, Int.reduceGE, Int.reduceGT, Nat.reduceBEq, Int.reduceToNat]
              all_goals simp
          · have e0 : arr0 ⟨c0, c1, x, y, q0, n :: r⟩ 1 = ⟨c1.getD n.circuit.toNat 0, 3, false⟩ := ha
            simp only [go_sem, hG, hP, Nat.reduceEqDiff, ↓reduceIte, reduceCtorEq, Nat.reduceAdd, Nat.reduceSub, Nat.reduceMul, Nat.reduceLT, Nat.reduceLeDiff, Int.reduceAdd, Int.reduceSub, Int.reduceMul, Int.reduceLT, Int.reduceLE, Int.reduceEq, Int.reduceNeg, Int.reduceNe, Int.reduceGE, Int.reduceGT, Nat.reduceBEq, Int.reduceToNat,  spToTr_f, spToTr_t, spTrOk_f, spTrOk_t, spIn_f, spIn_t, spPut_f, spPut_t, spOwner_f, spOwner_t, spArrive_f, spArrive_t, takeA6_eq, hT, ha, hxx, cast_succ_ne, cast_succ_sub, cast_one_le, getD_cons0]
            (try simp (disch := omega) only [wrap_id])
            repeat (refine And.intro (by first | omega | (simp; done) | (simp; omega) | (unfold appRoom; omega)) ?_)
            refine ⟨fun hq => ?_, fun hq => ?_⟩
            · rw [carry_no (t := ⟨c0, c1, x, y, q0, n :: r⟩) (s := 1) (fun e => e.2.2.2.1 ⟨by rw [e0]; simp, (congrArg (Nat.cast (R := Int)) hq)⟩)] at h
              refine ⟨_, _, _, ?_, h⟩
              simp only [trA_eq, trL_eq]
              simp only [go_sem, hG, hP, Nat.reduceEqDiff, ↓reduceIte, reduceCtorEq, Nat.reduceAdd, Nat.reduceSub, Nat.reduceMul, Nat.reduceLT, Nat.reduceLeDiff, Int.reduceAdd, Int.reduceSub, Int.reduceMul, Int.reduceLT, Int.reduceLE, Int.reduceEq, Int.reduceNeg, Int.reduceNe, Int.reduceGE, Int.reduceGT, Nat.reduceBEq, Int.reduceToNat]
              all_goals simp
            · have hq : ¬ ((q0.length : Nat) : Int) = 60 := fun e => hq (Int.ofNat.inj e)
              repeat (refine And.intro (by first | omega | (simp; done) | (simp; omega) | (unfold appRoom; omega)) ?_)
              have ec : carried ⟨c0, c1, x, y, q0, n :: r⟩ 1 = ⟨c0, c1.set n.circuit.toNat (c1.getD n.circuit.toNat 0), x, y, q0 ++ [⟨3, n.circuit⟩], r⟩ := by unfold carried; rw [e0]; rfl
              rw [carry_yes (t := ⟨c0, c1, x, y, q0, n :: r⟩) (s := 1) ⟨hT, by omega, List.cons_ne_nil _ _, fun e => hq e.2, fun e => by rw [e0] at e; cases e.1⟩, ec] at h
              refine ⟨_, _, _, ?_, h⟩
              simp only [trA_eq, trL_eq]
              simp only [go_sem, hG, hP, Nat.reduceEqDiff, ↓reduceIte, reduceCtorEq, Nat.reduceAdd, Nat.reduceSub, Nat.reduceMul, Nat.reduceLT, Nat.reduceLeDiff, Int.reduceAdd, Int.reduceSub, Int.reduceMul, Int.reduceLT, Int.reduceLE, Int.reduceEq, Int.reduceNeg, Int.reduceNe, Int.reduceGE, Int.reduceGT, Nat.reduceBEq, Int.reduceToNat]
              all_goals simp
          · have e0 : arr0 ⟨c0, c1, x, y, q0, n :: r⟩ 1 = ⟨2, 0, false⟩ := ha
            simp only [go_sem, hG, hP, Nat.reduceEqDiff, ↓reduceIte, reduceCtorEq, Nat.reduceAdd, Nat.reduceSub, Nat.reduceMul, Nat.reduceLT, Nat.reduceLeDiff, Int.reduceAdd, Int.reduceSub, Int.reduceMul, Int.reduceLT, Int.reduceLE, Int.reduceEq, Int.reduceNeg, Int.reduceNe, Int.reduceGE, Int.reduceGT, Nat.reduceBEq, Int.reduceToNat,  spToTr_f, spToTr_t, spTrOk_f, spTrOk_t, spIn_f, spIn_t, spPut_f, spPut_t, spOwner_f, spOwner_t, spArrive_f, spArrive_t, takeA6_eq, hT, ha, hxx, cast_succ_ne, cast_succ_sub, cast_one_le, getD_cons0]
            (try simp (disch := omega) only [wrap_id])
            repeat (refine And.intro (by first | omega | (simp; done) | (simp; omega) | (unfold appRoom; omega)) ?_)
            have ec : carried ⟨c0, c1, x, y, q0, n :: r⟩ 1 = ⟨c0, c1.set n.circuit.toNat 2, x, y, q0, r⟩ := by unfold carried; rw [e0]; rfl
            rw [carry_yes (t := ⟨c0, c1, x, y, q0, n :: r⟩) (s := 1) ⟨hT, by omega, List.cons_ne_nil _ _, fun e => by rw [e0] at e; exact absurd e.1 (by simp), fun e => by rw [e0] at e; cases e.1⟩, ec] at h
            refine ⟨_, _, _, ?_, h⟩
            simp only [trA_eq, trL_eq]
            simp only [go_sem, hG, hP, Nat.reduceEqDiff, ↓reduceIte, reduceCtorEq, Nat.reduceAdd, Nat.reduceSub, Nat.reduceMul, Nat.reduceLT, Nat.reduceLeDiff, Int.reduceAdd, Int.reduceSub, Int.reduceMul, Int.reduceLT, Int.reduceLE, Int.reduceEq, Int.reduceNeg, Int.reduceNe, Int.reduceGE, Int.reduceGT, Nat.reduceBEq, Int.reduceToNat]
            all_goals simp
          · have e0 : arr0 ⟨c0, c1, x, y, q0, n :: r⟩ 1 = ⟨c1.getD n.circuit.toNat 0, 0, false⟩ := ha
            simp only [go_sem, hG, hP, Nat.reduceEqDiff, ↓reduceIte, reduceCtorEq, Nat.reduceAdd, Nat.reduceSub, Nat.reduceMul, Nat.reduceLT, Nat.reduceLeDiff, Int.reduceAdd, Int.reduceSub, Int.reduceMul, Int.reduceLT, Int.reduceLE, Int.reduceEq, Int.reduceNeg, Int.reduceNe, Int.reduceGE, Int.reduceGT, Nat.reduceBEq, Int.reduceToNat,  spToTr_f, spToTr_t, spTrOk_f, spTrOk_t, spIn_f, spIn_t, spPut_f, spPut_t, spOwner_f, spOwner_t, spArrive_f, spArrive_t, takeA6_eq, hT, ha, hxx, cast_succ_ne, cast_succ_sub, cast_one_le, getD_cons0]
            (try simp (disch := omega) only [wrap_id])
            repeat (refine And.intro (by first | omega | (simp; done) | (simp; omega) | (unfold appRoom; omega)) ?_)
            have ec : carried ⟨c0, c1, x, y, q0, n :: r⟩ 1 = ⟨c0, c1.set n.circuit.toNat (c1.getD n.circuit.toNat 0), x, y, q0, r⟩ := by unfold carried; rw [e0]; rfl
            rw [carry_yes (t := ⟨c0, c1, x, y, q0, n :: r⟩) (s := 1) ⟨hT, by omega, List.cons_ne_nil _ _, fun e => by rw [e0] at e; exact absurd e.1 (by simp), fun e => by rw [e0] at e; cases e.1⟩, ec] at h
            refine ⟨_, _, _, ?_, h⟩
            simp only [trA_eq, trL_eq]
            simp only [go_sem, hG, hP, Nat.reduceEqDiff, ↓reduceIte, reduceCtorEq, Nat.reduceAdd, Nat.reduceSub, Nat.reduceMul, Nat.reduceLT, Nat.reduceLeDiff, Int.reduceAdd, Int.reduceSub, Int.reduceMul, Int.reduceLT, Int.reduceLE, Int.reduceEq, Int.reduceNeg, Int.reduceNe, Int.reduceGE, Int.reduceGT, Nat.reduceBEq, Int.reduceToNat]
            all_goals simp
          · have e0 : arr0 ⟨c0, c1, x, y, q0, n :: r⟩ 1 = ⟨0, 0, true⟩ := ha
            simp only [go_sem, hG, hP, Nat.reduceEqDiff, ↓reduceIte, reduceCtorEq, Nat.reduceAdd, Nat.reduceSub, Nat.reduceMul, Nat.reduceLT, Nat.reduceLeDiff, Int.reduceAdd, Int.reduceSub, Int.reduceMul, Int.reduceLT, Int.reduceLE, Int.reduceEq, Int.reduceNeg, Int.reduceNe, Int.reduceGE, Int.reduceGT, Nat.reduceBEq, Int.reduceToNat,  spToTr_f, spToTr_t, spTrOk_f, spTrOk_t, spIn_f, spIn_t, spPut_f, spPut_t, spOwner_f, spOwner_t, spArrive_f, spArrive_t, takeA6_eq, hT, ha, hxx, cast_succ_ne, cast_succ_sub, cast_one_le, getD_cons0]
            (try simp (disch := omega) only [wrap_id])
            repeat (refine And.intro (by first | omega | (simp; done) | (simp; omega) | (unfold appRoom; omega)) ?_)
            refine ⟨fun hx => ?_, fun hx => ?_⟩
            · rw [carry_no (t := ⟨c0, c1, x, y, q0, n :: r⟩) (s := 1) (fun e => e.2.2.2.2 ⟨by rw [e0], hx⟩)] at h
              refine ⟨_, _, _, ?_, h⟩
              simp only [trA_eq, trL_eq]
              simp only [go_sem, hG, hP, Nat.reduceEqDiff, ↓reduceIte, reduceCtorEq, Nat.reduceAdd, Nat.reduceSub, Nat.reduceMul, Nat.reduceLT, Nat.reduceLeDiff, Int.reduceAdd, Int.reduceSub, Int.reduceMul, Int.reduceLT, Int.reduceLE, Int.reduceEq, Int.reduceNeg, Int.reduceNe, Int.reduceGE, Int.reduceGT, Nat.reduceBEq, Int.reduceToNat]
              all_goals simp
            · skip
              have ec : carried ⟨c0, c1, x, y, q0, n :: r⟩ 1 = ⟨c0, c1.set n.circuit.toNat 0, x, y + 1, q0, r⟩ := by unfold carried; rw [e0]; rfl
              rw [carry_yes (t := ⟨c0, c1, x, y, q0, n :: r⟩) (s := 1) ⟨hT, by omega, List.cons_ne_nil _ _, fun e => by rw [e0] at e; exact absurd e.1 (by simp), fun e => hx e.2⟩, ec] at h
              refine ⟨_, _, _, ?_, h⟩
              simp only [trA_eq, trL_eq]
              simp only [go_sem, hG, hP, Nat.reduceEqDiff, ↓reduceIte, reduceCtorEq, Nat.reduceAdd, Nat.reduceSub, Nat.reduceMul, Nat.reduceLT, Nat.reduceLeDiff, Int.reduceAdd, Int.reduceSub, Int.reduceMul, Int.reduceLT, Int.reduceLE, Int.reduceEq, Int.reduceNeg, Int.reduceNe, Int.reduceGE, Int.reduceGT, Nat.reduceBEq, Int.reduceToNat]
              all_goals simp
          · have e0 : arr0 ⟨c0, c1, x, y, q0, n :: r⟩ 1 = ⟨c1.getD n.circuit.toNat 0, 0, false⟩ := ha
            simp only [go_sem, hG, hP, Nat.reduceEqDiff, ↓reduceIte, reduceCtorEq, Nat.reduceAdd, Nat.reduceSub, Nat.reduceMul, Nat.reduceLT, Nat.reduceLeDiff, Int.reduceAdd, Int.reduceSub, Int.reduceMul, Int.reduceLT, Int.reduceLE, Int.reduceEq, Int.reduceNeg, Int.reduceNe, Int.reduceGE, Int.reduceGT, Nat.reduceBEq, Int.reduceToNat,  spToTr_f, spToTr_t, spTrOk_f, spTrOk_t, spIn_f, spIn_t, spPut_f, spPut_t, spOwner_f, spOwner_t, spArrive_f, spArrive_t, takeA6_eq, hT, ha, hxx, cast_succ_ne, cast_succ_sub, cast_one_le, getD_cons0]
            (try simp (disch := omega) only [wrap_id])
            repeat (refine And.intro (by first | omega | (simp; done) | (simp; omega) | (unfold appRoom; omega)) ?_)
            have ec : carried ⟨c0, c1, x, y, q0, n :: r⟩ 1 = ⟨c0, c1.set n.circuit.toNat (c1.getD n.circuit.toNat 0), x, y, q0, r⟩ := by unfold carried; rw [e0]; rfl
            rw [carry_yes (t := ⟨c0, c1, x, y, q0, n :: r⟩) (s := 1) ⟨hT, by omega, List.cons_ne_nil _ _, fun e => by rw [e0] at e; exact absurd e.1 (by simp), fun e => by rw [e0] at e; cases e.1⟩, ec] at h
            refine ⟨_, _, _, ?_, h⟩
            simp only [trA_eq, trL_eq]
            simp only [go_sem, hG, hP, Nat.reduceEqDiff, ↓reduceIte, reduceCtorEq, Nat.reduceAdd, Nat.reduceSub, Nat.reduceMul, Nat.reduceLT, Nat.reduceLeDiff, Int.reduceAdd, Int.reduceSub, Int.reduceMul, Int.reduceLT, Int.reduceLE, Int.reduceEq, Int.reduceNeg, Int.reduceNe, Int.reduceGE, Int.reduceGT, Nat.reduceBEq, Int.reduceToNat]
            all_goals simp
          · have e0 : arr0 ⟨c0, c1, x, y, q0, n :: r⟩ 1 = ⟨0, 5, false⟩ := ha
            simp only [go_sem, hG, hP, Nat.reduceEqDiff, ↓reduceIte, reduceCtorEq, Nat.reduceAdd, Nat.reduceSub, Nat.reduceMul, Nat.reduceLT, Nat.reduceLeDiff, Int.reduceAdd, Int.reduceSub, Int.reduceMul, Int.reduceLT, Int.reduceLE, Int.reduceEq, Int.reduceNeg, Int.reduceNe, Int.reduceGE, Int.reduceGT, Nat.reduceBEq, Int.reduceToNat,  spToTr_f, spToTr_t, spTrOk_f, spTrOk_t, spIn_f, spIn_t, spPut_f, spPut_t, spOwner_f, spOwner_t, spArrive_f, spArrive_t, takeA6_eq, hT, ha, hxx, cast_succ_ne, cast_succ_sub, cast_one_le, getD_cons0]
            (try simp (disch := omega) only [wrap_id])
            repeat (refine And.intro (by first | omega | (simp; done) | (simp; omega) | (unfold appRoom; omega)) ?_)
            refine ⟨fun hq => ?_, fun hq => ?_⟩
            · rw [carry_no (t := ⟨c0, c1, x, y, q0, n :: r⟩) (s := 1) (fun e => e.2.2.2.1 ⟨by rw [e0]; simp, (congrArg (Nat.cast (R := Int)) hq)⟩)] at h
              refine ⟨_, _, _, ?_, h⟩
              simp only [trA_eq, trL_eq]
              simp only [go_sem, hG, hP, Nat.reduceEqDiff, ↓reduceIte, reduceCtorEq, Nat.reduceAdd, Nat.reduceSub, Nat.reduceMul, Nat.reduceLT, Nat.reduceLeDiff, Int.reduceAdd, Int.reduceSub, Int.reduceMul, Int.reduceLT, Int.reduceLE, Int.reduceEq, Int.reduceNeg, Int.reduceNe, Int.reduceGE, Int.reduceGT, Nat.reduceBEq, Int.reduceToNat]
              all_goals simp
            · have hq : ¬ ((q0.length : Nat) : Int) = 60 := fun e => hq (Int.ofNat.inj e)
              repeat (refine And.intro (by first | omega | (simp; done) | (simp; omega) | (unfold appRoom; omega)) ?_)
              have ec : carried ⟨c0, c1, x, y, q0, n :: r⟩ 1 = ⟨c0, c1.set n.circuit.toNat 0, x, y, q0 ++ [⟨5, n.circuit⟩], r⟩ := by unfold carried; rw [e0]; rfl
              rw [carry_yes (t := ⟨c0, c1, x, y, q0, n :: r⟩) (s := 1) ⟨hT, by omega, List.cons_ne_nil _ _, fun e => hq e.2, fun e => by rw [e0] at e; cases e.1⟩, ec] at h
              refine ⟨_, _, _, ?_, h⟩
              simp only [trA_eq, trL_eq]
              simp only [go_sem, hG, hP, Nat.reduceEqDiff, ↓reduceIte, reduceCtorEq, Nat.reduceAdd, Nat.reduceSub, Nat.reduceMul, Nat.reduceLT, Nat.reduceLeDiff, Int.reduceAdd, Int.reduceSub, Int.reduceMul, Int.reduceLT, Int.reduceLE, Int.reduceEq, Int.reduceNeg, Int.reduceNe, Int.reduceGE, Int.reduceGT, Nat.reduceBEq, Int.reduceToNat]
              all_goals simp
          · have e0 : arr0 ⟨c0, c1, x, y, q0, n :: r⟩ 1 = ⟨c1.getD n.circuit.toNat 0, 5, false⟩ := ha
            simp only [go_sem, hG, hP, Nat.reduceEqDiff, ↓reduceIte, reduceCtorEq, Nat.reduceAdd, Nat.reduceSub, Nat.reduceMul, Nat.reduceLT, Nat.reduceLeDiff, Int.reduceAdd, Int.reduceSub, Int.reduceMul, Int.reduceLT, Int.reduceLE, Int.reduceEq, Int.reduceNeg, Int.reduceNe, Int.reduceGE, Int.reduceGT, Nat.reduceBEq, Int.reduceToNat,  spToTr_f, spToTr_t, spTrOk_f, spTrOk_t, spIn_f, spIn_t, spPut_f, spPut_t, spOwner_f, spOwner_t, spArrive_f, spArrive_t, takeA6_eq, hT, ha, hxx, cast_succ_ne, cast_succ_sub, cast_one_le, getD_cons0]
            (try simp (disch := omega) only [wrap_id])
            repeat (refine And.intro (by first | omega | (simp; done) | (simp; omega) | (unfold appRoom; omega)) ?_)
            refine ⟨fun hq => ?_, fun hq => ?_⟩
            · rw [carry_no (t := ⟨c0, c1, x, y, q0, n :: r⟩) (s := 1) (fun e => e.2.2.2.1 ⟨by rw [e0]; simp, (congrArg (Nat.cast (R := Int)) hq)⟩)] at h
              refine ⟨_, _, _, ?_, h⟩
              simp only [trA_eq, trL_eq]
              simp only [go_sem, hG, hP, Nat.reduceEqDiff, ↓reduceIte, reduceCtorEq, Nat.reduceAdd, Nat.reduceSub, Nat.reduceMul, Nat.reduceLT, Nat.reduceLeDiff, Int.reduceAdd, Int.reduceSub, Int.reduceMul, Int.reduceLT, Int.reduceLE, Int.reduceEq, Int.reduceNeg, Int.reduceNe, Int.reduceGE, Int.reduceGT, Nat.reduceBEq, Int.reduceToNat]
              all_goals simp
            · have hq : ¬ ((q0.length : Nat) : Int) = 60 := fun e => hq (Int.ofNat.inj e)
              repeat (refine And.intro (by first | omega | (simp; done) | (simp; omega) | (unfold appRoom; omega)) ?_)
              have ec : carried ⟨c0, c1, x, y, q0, n :: r⟩ 1 = ⟨c0, c1.set n.circuit.toNat (c1.getD n.circuit.toNat 0), x, y, q0 ++ [⟨5, n.circuit⟩], r⟩ := by unfold carried; rw [e0]; rfl
              rw [carry_yes (t := ⟨c0, c1, x, y, q0, n :: r⟩) (s := 1) ⟨hT, by omega, List.cons_ne_nil _ _, fun e => hq e.2, fun e => by rw [e0] at e; cases e.1⟩, ec] at h
              refine ⟨_, _, _, ?_, h⟩
              simp only [trA_eq, trL_eq]
              simp only [go_sem, hG, hP, Nat.reduceEqDiff, ↓reduceIte, reduceCtorEq, Nat.reduceAdd, Nat.reduceSub, Nat.reduceMul, Nat.reduceLT, Nat.reduceLeDiff, Int.reduceAdd, Int.reduceSub, Int.reduceMul, Int.reduceLT, Int.reduceLE, Int.reduceEq, Int.reduceNeg, Int.reduceNe, Int.reduceGE, Int.reduceGT, Nat.reduceBEq, Int.reduceToNat]
              all_goals simp
          · have e0 : arr0 ⟨c0, c1, x, y, q0, n :: r⟩ 1 = ⟨0, 0, false⟩ := ha
            simp only [go_sem, hG, hP, Nat.reduceEqDiff, ↓reduceIte, reduceCtorEq, Nat.reduceAdd, Nat.reduceSub, Nat.reduceMul, Nat.reduceLT, Nat.reduceLeDiff, Int.reduceAdd, Int.reduceSub, Int.reduceMul, Int.reduceLT, Int.reduceLE, Int.reduceEq, Int.reduceNeg, Int.reduceNe, Int.reduceGE, Int.reduceGT, Nat.reduceBEq, Int.reduceToNat,  spToTr_f, spToTr_t, spTrOk_f, spTrOk_t, spIn_f, spIn_t, spPut_f, spPut_t, spOwner_f, spOwner_t, spArrive_f, spArrive_t, takeA6_eq, hT, ha, hxx, cast_succ_ne, cast_succ_sub, cast_one_le, getD_cons0]
            (try simp (disch := omega) only [wrap_id])
            repeat (refine And.intro (by first | omega | (simp; done) | (simp; omega) | (unfold appRoom; omega)) ?_)
            have ec : carried ⟨c0, c1, x, y, q0, n :: r⟩ 1 = ⟨c0, c1.set n.circuit.toNat 0, x, y, q0, r⟩ := by unfold carried; rw [e0]; rfl
            rw [carry_yes (t := ⟨c0, c1, x, y, q0, n :: r⟩) (s := 1) ⟨hT, by omega, List.cons_ne_nil _ _, fun e => by rw [e0] at e; exact absurd e.1 (by simp), fun e => by rw [e0] at e; cases e.1⟩, ec] at h
            refine ⟨_, _, _, ?_, h⟩
            simp only [trA_eq, trL_eq]
            simp only [go_sem, hG, hP, Nat.reduceEqDiff, ↓reduceIte, reduceCtorEq, Nat.reduceAdd, Nat.reduceSub, Nat.reduceMul, Nat.reduceLT, Nat.reduceLeDiff, Int.reduceAdd, Int.reduceSub, Int.reduceMul, Int.reduceLT, Int.reduceLE, Int.reduceEq, Int.reduceNeg, Int.reduceNe, Int.reduceGE, Int.reduceGT, Nat.reduceBEq, Int.reduceToNat]
            all_goals simp
          · have e0 : arr0 ⟨c0, c1, x, y, q0, n :: r⟩ 1 = ⟨c1.getD n.circuit.toNat 0, 0, false⟩ := ha
            simp only [go_sem, hG, hP, Nat.reduceEqDiff, ↓reduceIte, reduceCtorEq, Nat.reduceAdd, Nat.reduceSub, Nat.reduceMul, Nat.reduceLT, Nat.reduceLeDiff, Int.reduceAdd, Int.reduceSub, Int.reduceMul, Int.reduceLT, Int.reduceLE, Int.reduceEq, Int.reduceNeg, Int.reduceNe, Int.reduceGE, Int.reduceGT, Nat.reduceBEq, Int.reduceToNat,  spToTr_f, spToTr_t, spTrOk_f, spTrOk_t, spIn_f, spIn_t, spPut_f, spPut_t, spOwner_f, spOwner_t, spArrive_f, spArrive_t, takeA6_eq, hT, ha, hxx, cast_succ_ne, cast_succ_sub, cast_one_le, getD_cons0]
            (try simp (disch := omega) only [wrap_id])
            repeat (refine And.intro (by first | omega | (simp; done) | (simp; omega) | (unfold appRoom; omega)) ?_)
            have ec : carried ⟨c0, c1, x, y, q0, n :: r⟩ 1 = ⟨c0, c1.set n.circuit.toNat (c1.getD n.circuit.toNat 0), x, y, q0, r⟩ := by unfold carried; rw [e0]; rfl
            rw [carry_yes (t := ⟨c0, c1, x, y, q0, n :: r⟩) (s := 1) ⟨hT, by omega, List.cons_ne_nil _ _, fun e => by rw [e0] at e; exact absurd e.1 (by simp), fun e => by rw [e0] at e; cases e.1⟩, ec] at h
            refine ⟨_, _, _, ?_, h⟩
            simp only [trA_eq, trL_eq]
            simp only [go_sem, hG, hP, Nat.reduceEqDiff, ↓reduceIte, reduceCtorEq, Nat.reduceAdd, Nat.reduceSub, Nat.reduceMul, Nat.reduceLT, Nat.reduceLeDiff, Int.reduceAdd, Int.reduceSub, Int.reduceMul, Int.reduceLT, Int.reduceLE, Int.reduceEq, Int.reduceNeg, Int.reduceNe, Int.reduceGE, Int.reduceGT, Nat.reduceBEq, Int.reduceToNat]
            all_goals simp
        · simp only [go_sem, hG, hP, Nat.reduceEqDiff, ↓reduceIte, reduceCtorEq, Nat.reduceAdd, Nat.reduceSub, Nat.reduceMul, Nat.reduceLT, Nat.reduceLeDiff, Int.reduceAdd, Int.reduceSub, Int.reduceMul, Int.reduceLT, Int.reduceLE, Int.reduceEq, Int.reduceNeg, Int.reduceNe, Int.reduceGE, Int.reduceGT, Nat.reduceBEq, Int.reduceToNat,  spToTr_f, spToTr_t, spTrOk_f, spTrOk_t, spIn_f, spIn_t, spPut_f, spPut_t, spOwner_f, spOwner_t, spArrive_f, spArrive_t, takeA6_eq, hT]
          repeat (refine And.intro (by first | omega | (simp; done) | (simp; omega) | (unfold appRoom; omega)) ?_)
          rw [carry_no (t := ⟨c0, c1, x, y, q0, n :: r⟩) (s := 1) (fun e => hT e.1)] at h
          refine ⟨_, _, _, ?_, h⟩
          simp only [trA_eq, trL_eq]
          simp only [go_sem, hG, hP, Nat.reduceEqDiff, ↓reduceIte, reduceCtorEq, Nat.reduceAdd, Nat.reduceSub, Nat.reduceMul, Nat.reduceLT, Nat.reduceLeDiff, Int.reduceAdd, Int.reduceSub, Int.reduceMul, Int.reduceLT, Int.reduceLE, Int.reduceEq, Int.reduceNeg, Int.reduceNe, Int.reduceGE, Int.reduceGT, Nat.reduceBEq, Int.reduceToNat]
          all_goals simp
  · exact h.elim
end Go.Proofs.YtfgefmkcmkihhaaE

/-! The code of a function, in the engine's words. -/
namespace Go.Proofs.YtfgefmkcmkihhaaE
open Go Go.RowKit
@[reducible] def ic3 : IC := (.seq (.ops [⟨some 3, .box (.tmp 0), none⟩, ⟨some 6, .mov (.const (.bool false)), none⟩]) (.seq (.ops [⟨some 7, .mov (.const (.int .i64 1048576)), none⟩]) (.seq (.ops [⟨some 18, .load 6 true (.tmp 3), none⟩, ⟨some 19, .mov (.tmp 7), none⟩, ⟨some 20, .call 8 [(.tmp 18), (.tmp 19)], none⟩, ⟨some 7, .mov (.tmp 20), none⟩]) (.seq (.seq (.ops [⟨some 21, .mov (.tmp 7), none⟩, ⟨some 22, .bin .lss (.tmp 21) (.const (.int .i64 0)), none⟩]) (.cond (.tmp 22) (.seq (.ops [⟨some 6, .mov (.const (.bool true)), none⟩]) .ret) .skip)) (.seq (.ops [⟨some 24, .load 6 true (.tmp 3), none⟩, ⟨some 25, .call 10 [(.tmp 24)], none⟩, ⟨some 26, .mov (.tmp 1), none⟩, ⟨some 27, .mov (.tmp 2), none⟩, ⟨some 28, .call 9 [(.tmp 25), (.tmp 26), (.tmp 27)], none⟩, ⟨some 23, .mov (.tmp 28), none⟩, ⟨some 29, .ext (.tmp 23) 0, none⟩, ⟨some 30, .ext (.tmp 23) 1, none⟩, ⟨some 8, .new [(.slice none 0 0), (.slice none 0 0), (.int .i64 0), (.int .i64 0), (.slice none 0 0), (.slice none 0 0)], none⟩, ⟨none, .store 6 (.tmp 8) (.tmp 29), none⟩, ⟨some 9, .mov (.tmp 30), none⟩]) (.seq (.ops [⟨some 31, .load 6 true (.tmp 3), none⟩, ⟨some 32, .call 10 [(.tmp 31)], none⟩, ⟨some 10, .new [(.slice none 0 0), (.slice none 0 0), (.int .i64 0), (.int .i64 0), (.slice none 0 0), (.slice none 0 0)], none⟩, ⟨none, .store 6 (.tmp 10) (.tmp 32), none⟩]) (.seq (.ops [⟨some 34, .load 6 true (.tmp 10), none⟩, ⟨some 35, .mov (.tmp 1), none⟩, ⟨some 36, .mov (.tmp 2), none⟩, ⟨some 37, .call 11 [(.tmp 34), (.tmp 35), (.tmp 36)], none⟩, ⟨some 33, .mov (.tmp 37), none⟩, ⟨some 38, .ext (.tmp 33) 0, none⟩, ⟨some 39, .ext (.tmp 33) 1, none⟩, ⟨some 11, .new [(.slice none 0 0), (.slice none 0 0), (.int .i64 0), (.int .i64 0), (.slice none 0 0), (.slice none 0 0)], none⟩, ⟨none, .store 6 (.tmp 11) (.tmp 38), none⟩, ⟨some 12, .mov (.tmp 39), none⟩]) (.seq (.seq (.ops [⟨some 40, .load 6 true (.tmp 11), none⟩, ⟨some 41, .load 6 true (.tmp 8), none⟩, ⟨some 42, .call 12 [(.tmp 40), (.tmp 41)], none⟩, ⟨some 43, .una .not (.tmp 42), none⟩, ⟨some 44, .mov (.tmp 43), none⟩, ⟨some 45, .mov (.tmp 12), some (44, false)⟩, ⟨some 46, .mov (.tmp 9), some (44, false)⟩, ⟨some 47, .beq true (.tmp 45) (.tmp 46), some (44, false)⟩, ⟨some 48, .pick (.tmp 44) (.const (.bool true)) (.tmp 47), none⟩]) (.cond (.tmp 48) (.seq (.ops [⟨some 6, .mov (.const (.bool false)), none⟩]) .ret) .skip)) (.seq (.seq (.draw [⟨some 49, .load 6 true (.tmp 10), none⟩, ⟨some 50, .load 6 true (.tmp 3), none⟩, ⟨some 51, .call 10 [(.tmp 50)], none⟩, ⟨some 52, .call 12 [(.tmp 49), (.tmp 51)], none⟩, ⟨some 53, .una .not (.tmp 52), none⟩] (.held ⟨some 49, .load 6 true (.tmp 10), none⟩ (.held ⟨some 50, .load 6 true (.tmp 3), none⟩ (.alt ⟨some 51, .call 10 [(.tmp 50)], none⟩ (.alt ⟨some 52, .call 12 [(.tmp 49), (.tmp 51)], none⟩ (.held ⟨some 53, .una .not (.tmp 52), none⟩ .done) .stop) .stop)))) (.cond (.tmp 53) (.seq (.ops [⟨some 6, .mov (.const (.bool false)), none⟩]) .ret) .skip)) (.seq (.ops [⟨some 13, .mov (.const (.int .i64 1)), none⟩]) (.seq (.ops [⟨some 54, .load 6 true (.tmp 10), none⟩, ⟨some 55, .mov (.tmp 13), none⟩, ⟨some 56, .call 13 [(.tmp 54), (.tmp 55)], none⟩, ⟨some 13, .mov (.tmp 56), none⟩]) (.seq (.seq (.ops [⟨some 57, .mov (.tmp 13), none⟩, ⟨some 58, .bin .lss (.tmp 57) (.const (.int .i64 0)), none⟩, ⟨some 59, .mov (.tmp 58), none⟩, ⟨some 60, .load 6 true (.tmp 11), some (59, false)⟩, ⟨some 61, .load 6 true (.tmp 8), some (59, false)⟩, ⟨some 62, .call 12 [(.tmp 60), (.tmp 61)], some (59, false)⟩, ⟨some 63, .una .not (.tmp 62), some (59, false)⟩, ⟨some 64, .pick (.tmp 59) (.const (.bool true)) (.tmp 63), none⟩, ⟨some 65, .mov (.tmp 64), none⟩, ⟨some 66, .mov (.tmp 12), some (65, false)⟩, ⟨some 67, .mov (.tmp 9), some (65, false)⟩, ⟨some 68, .beq true (.tmp 66) (.tmp 67), some (65, false)⟩, ⟨some 69, .pick (.tmp 65) (.const (.bool true)) (.tmp 68), none⟩]) (.cond (.tmp 69) (.seq (.ops [⟨some 6, .mov (.const (.bool false)), none⟩]) .ret) .skip)) (.seq (.ops [⟨some 14, .mov (.const (.int .i64 1)), none⟩]) (.seq (.ops [⟨some 70, .load 6 true (.tmp 11), none⟩, ⟨some 71, .mov (.tmp 14), none⟩, ⟨some 72, .call 13 [(.tmp 70), (.tmp 71)], none⟩, ⟨some 14, .mov (.tmp 72), none⟩]) (.seq (.ops [⟨some 15, .mov (.const (.int .i64 1)), none⟩]) (.seq (.ops [⟨some 73, .load 6 true (.tmp 11), none⟩, ⟨some 74, .mov (.tmp 15), none⟩, ⟨some 75, .call 14 [(.tmp 73), (.tmp 74)], none⟩, ⟨some 15, .mov (.tmp 75), none⟩]) (.seq (.seq (.ops [⟨some 76, .mov (.tmp 15), none⟩, ⟨some 77, .bin .lss (.tmp 76) (.const (.int .i64 0)), none⟩]) (.cond (.tmp 77) (.seq (.ops [⟨some 6, .mov (.const (.bool false)), none⟩]) .ret) .skip)) (.seq (.seq (.ops [⟨some 78, .mov (.tmp 15), none⟩, ⟨some 79, .mov (.tmp 14), none⟩, ⟨some 80, .bin .neq (.tmp 78) (.tmp 79), none⟩]) (.cond (.tmp 80) (.seq (.ops [⟨some 6, .mov (.const (.bool false)), none⟩]) .ret) .skip)) (.seq (.ops [⟨some 82, .load 6 true (.tmp 3), none⟩, ⟨some 83, .call 10 [(.tmp 82)], none⟩, ⟨some 84, .mov (.tmp 1), none⟩, ⟨some 85, .mov (.tmp 2), none⟩, ⟨some 86, .call 11 [(.tmp 83), (.tmp 84), (.tmp 85)], none⟩, ⟨some 81, .mov (.tmp 86), none⟩, ⟨some 87, .ext (.tmp 81) 0, none⟩, ⟨some 88, .ext (.tmp 81) 1, none⟩, ⟨some 16, .new [(.slice none 0 0), (.slice none 0 0), (.int .i64 0), (.int .i64 0), (.slice none 0 0), (.slice none 0 0)], none⟩, ⟨none, .store 6 (.tmp 16) (.tmp 87), none⟩, ⟨some 17, .mov (.tmp 88), none⟩]) (.seq (.seq (.ops [⟨some 89, .load 6 true (.tmp 16), none⟩, ⟨some 90, .load 6 true (.tmp 8), none⟩, ⟨some 91, .call 12 [(.tmp 89), (.tmp 90)], none⟩, ⟨some 92, .una .not (.tmp 91), none⟩, ⟨some 93, .mov (.tmp 92), none⟩, ⟨some 94, .mov (.tmp 17), some (93, false)⟩, ⟨some 95, .mov (.tmp 9), some (93, false)⟩, ⟨some 96, .beq true (.tmp 94) (.tmp 95), some (93, false)⟩, ⟨some 97, .pick (.tmp 93) (.const (.bool true)) (.tmp 96), none⟩]) (.cond (.tmp 97) (.seq (.ops [⟨some 6, .mov (.const (.bool false)), none⟩]) .ret) .skip)) (.seq (.ops [⟨some 15, .mov (.const (.int .i64 1)), none⟩]) (.seq (.ops [⟨some 98, .load 6 true (.tmp 11), none⟩, ⟨some 99, .mov (.tmp 15), none⟩, ⟨some 100, .call 14 [(.tmp 98), (.tmp 99)], none⟩, ⟨some 15, .mov (.tmp 100), none⟩]) (.seq (.seq (.ops [⟨some 101, .mov (.tmp 15), none⟩, ⟨some 102, .bin .lss (.tmp 101) (.const (.int .i64 0)), none⟩]) (.cond (.tmp 102) (.seq (.ops [⟨some 6, .mov (.const (.bool false)), none⟩]) .ret) .skip)) (.seq (.seq (.ops [⟨some 103, .mov (.tmp 15), none⟩, ⟨some 104, .mov (.tmp 14), none⟩, ⟨some 105, .bin .neq (.tmp 103) (.tmp 104), none⟩]) (.cond (.tmp 105) (.seq (.ops [⟨some 6, .mov (.const (.bool false)), none⟩]) .ret) .skip)) (.seq (.ops [⟨some 6, .mov (.const (.bool true)), none⟩]) .ret)))))))))))))))))))))))))
@[reducible] def rv3 : List RV := [.tmp 6]
theorem low3 : lowC Try.prog tau Try.f3.ntmps (Try.f3.body.getD .skip) = some (erase ic3) := by kernel_rfl
theorem res3 : lowR Try.prog Try.f3.results.toList = some rv3 := by kernel_rfl
theorem bod3 : Try.f3.body = some (Try.f3.body.getD .skip) := by kernel_rfl
theorem cal3 : callable Try.prog 3 = true := by kernel_rfl

end Go.Proofs.YtfgefmkcmkihhaaE

/-! The law of Leave. -/
namespace Go.Proofs.YtfgefmkcmkihhaaE
open Go Go.RowKit
set_option linter.unusedSimpArgs false
set_option linter.unusedVariables false
set_option maxRecDepth 20000

theorem szTr_len {a b c d : Nat} {n : Int} (h0 : 0 ≤ n) (h : ¬ szTr a b c d n < 0) : (a + b + c + d : Nat) ≤ n := by
  unfold szTr szTwo szStep at h
  split at h <;> omega
theorem m_c0 {a b : List Int} {x y k : Int} {c d : List Note} : (marked ⟨a, b, x, y, c, d⟩ k).c0 = intMarks k a.length := id rfl
theorem m_c1 {a b : List Int} {x y k : Int} {c d : List Note} : (marked ⟨a, b, x, y, c, d⟩ k).c1 = intMarks (k + a.length) b.length := id rfl
theorem m_q0 {a b : List Int} {x y k : Int} {c d : List Note} : (marked ⟨a, b, x, y, c, d⟩ k).q0 = noteMarks (k + a.length + b.length) c.length := id rfl
theorem m_q1 {a b : List Int} {x y k : Int} {c d : List Note} : (marked ⟨a, b, x, y, c, d⟩ k).q1 = noteMarks (k + a.length + b.length + 2 * c.length) d.length := id rfl
theorem markEnd_eq {a b : List Int} {x y k : Int} {c d : List Note} : markEnd ⟨a, b, x, y, c, d⟩ k = k + a.length + b.length + 2 * c.length + 2 * d.length := id rfl
theorem take_im {k : Int} {n : Nat} : (intMarks k n).take n = intMarks k n := List.take_of_length_le (by rw [intMarks_len]; omega)
theorem take_nm {k : Int} {n : Nat} : (noteMarks k n).take n = noteMarks k n := List.take_of_length_le (by rw [noteMarks_len]; omega)
theorem held_marked {a b c d : Nat} {x y : Int} : heldTr ⟨intMarks 1 a, intMarks (1 + a) b, x, y, noteMarks (1 + a + b) c, noteMarks (1 + a + b + 2 * c) d⟩ 1 = 1 + a + b + 2 * c + 2 * d := by
  have h1 : heldI (intMarks 1 a) 1 = 1 + a := by unfold heldI; rw [intMarks_len, if_pos rfl]
  have h2 : heldI (intMarks (1 + a) b) (1 + a) = 1 + a + b := by unfold heldI; rw [intMarks_len, if_pos rfl]
  have h3 : heldN (noteMarks (1 + a + b) c) (1 + a + b) = 1 + a + b + 2 * c := by unfold heldN; rw [noteMarks_len, if_pos rfl]
  have h4 : heldN (noteMarks (1 + a + b + 2 * c) d) (1 + a + b + 2 * c) = 1 + a + b + 2 * c + 2 * d := by unfold heldN; rw [noteMarks_len, if_pos rfl]
  have h5 : heldI2 (intMarks 1 a) (intMarks (1 + a) b) 1 = 1 + a + b := by unfold heldI2; rw [h1, if_neg (by omega), h2]
  have h6 : heldN2 (noteMarks (1 + a + b) c) (noteMarks (1 + a + b + 2 * c) d) (1 + a + b) = 1 + a + b + 2 * c + 2 * d := by unfold heldN2; rw [h3, if_neg (by omega), h4]
  unfold heldTr
  rw [h5, if_neg (by omega), h6]
theorem bb_self {b : Bool} : (b == b) = true := by simp
theorem leave_len {t g : Tr} {s c : Int} {b : Bool} (h : leave t s c = (g, b)) : g.c0.length = t.c0.length ∧ g.c1.length = t.c1.length ∧ g.q0.length ≤ t.q0.length + 1 ∧ g.q1.length ≤ t.q1.length + 1 := by
  by_cases hl : leaveOk t s c
  · rw [leave_yes hl] at h
    cases h
    have hs := hl.2.1
    have : s = 0 ∨ s = 1 := by omega
    rcases this with rfl | rfl <;> simp [Tr.setC, Tr.setQ, Tr.c, Tr.q]
  · rw [leave_no hl] at h
    cases h
    simp
def spLaw3 : Spec := ⟨fun _ => [], fun args objs K => match args, objs with
  | [.agg [.rs .int c0, .rs .int c1, .v (.int .i64 x), .v (.int .i64 y), .rs .note q0, .rs .note q1], .v (.int .i64 side), .v (.int .i64 circuit)], [] => (c0.length ≤ 17592186044416 ∧ c1.length ≤ 17592186044416 ∧ q0.length ≤ 17592186044416 ∧ q1.length ≤ 17592186044416) ∧ K (.v (.bool true)) [] 0
  | _, _ => False⟩
theorem spLaw3_t {a : List AVal} : spLaw3.take a = [] := id rfl
theorem spLaw3_f {c0} {c1} {x} {y} {q0} {q1} {side} {circuit} {K : AVal → Hp → Nat → Prop} : Spec.f spLaw3 ([.agg [.rs .int c0, .rs .int c1, .v (.int .i64 x), .v (.int .i64 y), .rs .note q0, .rs .note q1], .v (.int .i64 side), .v (.int .i64 circuit)]) ([]) K = ((c0.length ≤ 17592186044416 ∧ c1.length ≤ 17592186044416 ∧ q0.length ≤ 17592186044416 ∧ q1.length ≤ 17592186044416) ∧ K (.v (.bool true)) [] 0) := id rfl
theorem valid3 : Valid Try.prog 3 spLaw3 := by
  refine validI (Γ := lk [(8, spSzTr), (9, spLeave), (10, spToTr), (11, spLeave), (12, spEqTr), (13, spMarkTr), (14, spHeldTr)]) Try.func3 bod3 low3 res3 (good_of ⟨⟨cal8, valid8⟩, ⟨cal9, valid9⟩, ⟨cal10, valid10⟩, ⟨cal11, valid11⟩, ⟨cal12, valid12⟩, ⟨cal13, valid13⟩, ⟨cal14, valid14⟩, trivial⟩) ?_
  intro E args objs K h hE hG hP
  simp only [spLaw3] at h
  split at h
  · refine ⟨by simp [Try.ntmps3], ?_⟩
    rename_i c0 c1 x y q0 q1 side circuit
    obtain ⟨⟨b1, b2, b3, b4⟩, h⟩ := h
    rcases hl : leave ⟨c0, c1, x, y, q0, q1⟩ side circuit with ⟨⟨d0, d1, x', y', p0, p1⟩, b⟩
    have hlen : d0.length = c0.length ∧ d1.length = c1.length ∧ p0.length ≤ q0.length + 1 ∧ p1.length ≤ q1.length + 1 := leave_len hl
    simp only [go_sem, hG, hP, Nat.reduceEqDiff, ↓reduceIte, reduceCtorEq, Nat.reduceAdd, Nat.reduceSub, Nat.reduceMul, Nat.reduceLT, Nat.reduceLeDiff, Int.reduceAdd, Int.reduceSub, Int.reduceMul, Int.reduceLT, Int.reduceLE, Int.reduceEq, Int.reduceNeg, Int.reduceNe, Int.reduceGE, Int.reduceGT, Nat.reduceBEq, Int.reduceToNat,  spSzTr_f, spSzTr_t, spLeave_f, spLeave_t, spToTr_f, spToTr_t, spEqTr_f, spEqTr_t, spMarkTr_f, spMarkTr_t, spHeldTr_f, spHeldTr_t, hl, trA_eq, trL_eq, takeA6_eq, bb_self, m_c0, m_c1, m_q0, m_q1, markEnd_eq, take_im, take_nm, intMarks_len, noteMarks_len, held_marked]
    repeat (refine And.intro (by first | omega | (simp; done) | (simp; omega) | (unfold appRoom; omega)) ?_)
    refine ⟨fun hs => ⟨_, _, _, ?_, h⟩, fun hs => ?_⟩
    · simp only [go_sem, hG, hP, Nat.reduceEqDiff, ↓reduceIte, reduceCtorEq, Nat.reduceAdd, Nat.reduceSub, Nat.reduceMul, Nat.reduceLT, Nat.reduceLeDiff, Int.reduceAdd, Int.reduceSub, Int.reduceMul, Int.reduceLT, Int.reduceLE, Int.reduceEq, Int.reduceNeg, Int.reduceNe, Int.reduceGE, Int.reduceGT, Nat.reduceBEq, Int.reduceToNat]
    have hz := szTr_len (by omega) hs
    repeat (refine And.intro (by first | omega | (simp; done) | (simp; omega) | (unfold appRoom; omega)) ?_)
    refine ⟨fun _ => ?_, fun hx => absurd hx (by omega)⟩
    repeat (refine And.intro (by first | omega | (simp; done) | (simp; omega) | (unfold appRoom; omega)) ?_)
    intro _
    repeat (refine And.intro (by first | omega | (simp; done) | (simp; omega) | (unfold appRoom; omega)) ?_)
    intro _
    refine ⟨_, _, _, ?_, h⟩
    simp only [go_sem, hG, hP, Nat.reduceEqDiff, ↓reduceIte, reduceCtorEq, Nat.reduceAdd, Nat.reduceSub, Nat.reduceMul, Nat.reduceLT, Nat.reduceLeDiff, Int.reduceAdd, Int.reduceSub, Int.reduceMul, Int.reduceLT, Int.reduceLE, Int.reduceEq, Int.reduceNeg, Int.reduceNe, Int.reduceGE, Int.reduceGT, Nat.reduceBEq, Int.reduceToNat]
    all_goals simp
  · exact h.elim
end Go.Proofs.YtfgefmkcmkihhaaE

/-! The code of a function, in the engine's words. -/
namespace Go.Proofs.YtfgefmkcmkihhaaE
open Go Go.RowKit
@[reducible] def ic5 : IC := (.seq (.ops [⟨some 2, .box (.tmp 0), none⟩, ⟨some 4, .mov (.const (.bool false)), none⟩]) (.seq (.ops [⟨some 5, .mov (.const (.int .i64 1048576)), none⟩]) (.seq (.ops [⟨some 16, .load 6 true (.tmp 2), none⟩, ⟨some 17, .mov (.tmp 5), none⟩, ⟨some 18, .call 8 [(.tmp 16), (.tmp 17)], none⟩, ⟨some 5, .mov (.tmp 18), none⟩]) (.seq (.seq (.ops [⟨some 19, .mov (.tmp 5), none⟩, ⟨some 20, .bin .lss (.tmp 19) (.const (.int .i64 0)), none⟩]) (.cond (.tmp 20) (.seq (.ops [⟨some 4, .mov (.const (.bool true)), none⟩]) .ret) .skip)) (.seq (.ops [⟨some 22, .load 6 true (.tmp 2), none⟩, ⟨some 23, .call 10 [(.tmp 22)], none⟩, ⟨some 24, .mov (.tmp 1), none⟩, ⟨some 25, .call 17 [(.tmp 23), (.tmp 24)], none⟩, ⟨some 21, .mov (.tmp 25), none⟩, ⟨some 26, .ext (.tmp 21) 0, none⟩, ⟨some 27, .ext (.tmp 21) 1, none⟩, ⟨some 6, .new [(.slice none 0 0), (.slice none 0 0), (.int .i64 0), (.int .i64 0), (.slice none 0 0), (.slice none 0 0)], none⟩, ⟨none, .store 6 (.tmp 6) (.tmp 26), none⟩, ⟨some 7, .mov (.tmp 27), none⟩]) (.seq (.ops [⟨some 28, .load 6 true (.tmp 2), none⟩, ⟨some 29, .call 10 [(.tmp 28)], none⟩, ⟨some 8, .new [(.slice none 0 0), (.slice none 0 0), (.int .i64 0), (.int .i64 0), (.slice none 0 0), (.slice none 0 0)], none⟩, ⟨none, .store 6 (.tmp 8) (.tmp 29), none⟩]) (.seq (.ops [⟨some 31, .load 6 true (.tmp 8), none⟩, ⟨some 32, .mov (.tmp 1), none⟩, ⟨some 33, .call 18 [(.tmp 31), (.tmp 32)], none⟩, ⟨some 30, .mov (.tmp 33), none⟩, ⟨some 34, .ext (.tmp 30) 0, none⟩, ⟨some 35, .ext (.tmp 30) 1, none⟩, ⟨some 9, .new [(.slice none 0 0), (.slice none 0 0), (.int .i64 0), (.int .i64 0), (.slice none 0 0), (.slice none 0 0)], none⟩, ⟨none, .store 6 (.tmp 9) (.tmp 34), none⟩, ⟨some 10, .mov (.tmp 35), none⟩]) (.seq (.seq (.ops [⟨some 36, .load 6 true (.tmp 9), none⟩, ⟨some 37, .load 6 true (.tmp 6), none⟩, ⟨some 38, .call 12 [(.tmp 36), (.tmp 37)], none⟩, ⟨some 39, .una .not (.tmp 38), none⟩, ⟨some 40, .mov (.tmp 39), none⟩, ⟨some 41, .mov (.tmp 10), some (40, false)⟩, ⟨some 42, .mov (.tmp 7), some (40, false)⟩, ⟨some 43, .beq true (.tmp 41) (.tmp 42), some (40, false)⟩, ⟨some 44, .pick (.tmp 40) (.const (.bool true)) (.tmp 43), none⟩]) (.cond (.tmp 44) (.seq (.ops [⟨some 4, .mov (.const (.bool false)), none⟩]) .ret) .skip)) (.seq (.seq (.draw [⟨some 45, .load 6 true (.tmp 8), none⟩, ⟨some 46, .load 6 true (.tmp 2), none⟩, ⟨some 47, .call 10 [(.tmp 46)], none⟩, ⟨some 48, .call 12 [(.tmp 45), (.tmp 47)], none⟩, ⟨some 49, .una .not (.tmp 48), none⟩] (.held ⟨some 45, .load 6 true (.tmp 8), none⟩ (.held ⟨some 46, .load 6 true (.tmp 2), none⟩ (.alt ⟨some 47, .call 10 [(.tmp 46)], none⟩ (.alt ⟨some 48, .call 12 [(.tmp 45), (.tmp 47)], none⟩ (.held ⟨some 49, .una .not (.tmp 48), none⟩ .done) .stop) .stop)))) (.cond (.tmp 49) (.seq (.ops [⟨some 4, .mov (.const (.bool false)), none⟩]) .ret) .skip)) (.seq (.ops [⟨some 11, .mov (.const (.int .i64 1)), none⟩]) (.seq (.ops [⟨some 50, .load 6 true (.tmp 8), none⟩, ⟨some 51, .mov (.tmp 11), none⟩, ⟨some 52, .call 13 [(.tmp 50), (.tmp 51)], none⟩, ⟨some 11, .mov (.tmp 52), none⟩]) (.seq (.seq (.ops [⟨some 53, .mov (.tmp 11), none⟩, ⟨some 54, .bin .lss (.tmp 53) (.const (.int .i64 0)), none⟩, ⟨some 55, .mov (.tmp 54), none⟩, ⟨some 56, .load 6 true (.tmp 9), some (55, false)⟩, ⟨some 57, .load 6 true (.tmp 6), some (55, false)⟩, ⟨some 58, .call 12 [(.tmp 56), (.tmp 57)], some (55, false)⟩, ⟨some 59, .una .not (.tmp 58), some (55, false)⟩, ⟨some 60, .pick (.tmp 55) (.const (.bool true)) (.tmp 59), none⟩, ⟨some 61, .mov (.tmp 60), none⟩, ⟨some 62, .mov (.tmp 10), some (61, false)⟩, ⟨some 63, .mov (.tmp 7), some (61, false)⟩, ⟨some 64, .beq true (.tmp 62) (.tmp 63), some (61, false)⟩, ⟨some 65, .pick (.tmp 61) (.const (.bool true)) (.tmp 64), none⟩]) (.cond (.tmp 65) (.seq (.ops [⟨some 4, .mov (.const (.bool false)), none⟩]) .ret) .skip)) (.seq (.ops [⟨some 12, .mov (.const (.int .i64 1)), none⟩]) (.seq (.ops [⟨some 66, .load 6 true (.tmp 9), none⟩, ⟨some 67, .mov (.tmp 12), none⟩, ⟨some 68, .call 13 [(.tmp 66), (.tmp 67)], none⟩, ⟨some 12, .mov (.tmp 68), none⟩]) (.seq (.ops [⟨some 13, .mov (.const (.int .i64 1)), none⟩]) (.seq (.ops [⟨some 69, .load 6 true (.tmp 9), none⟩, ⟨some 70, .mov (.tmp 13), none⟩, ⟨some 71, .call 14 [(.tmp 69), (.tmp 70)], none⟩, ⟨some 13, .mov (.tmp 71), none⟩]) (.seq (.seq (.ops [⟨some 72, .mov (.tmp 13), none⟩, ⟨some 73, .bin .lss (.tmp 72) (.const (.int .i64 0)), none⟩]) (.cond (.tmp 73) (.seq (.ops [⟨some 4, .mov (.const (.bool false)), none⟩]) .ret) .skip)) (.seq (.seq (.ops [⟨some 74, .mov (.tmp 13), none⟩, ⟨some 75, .mov (.tmp 12), none⟩, ⟨some 76, .bin .neq (.tmp 74) (.tmp 75), none⟩]) (.cond (.tmp 76) (.seq (.ops [⟨some 4, .mov (.const (.bool false)), none⟩]) .ret) .skip)) (.seq (.ops [⟨some 78, .load 6 true (.tmp 2), none⟩, ⟨some 79, .call 10 [(.tmp 78)], none⟩, ⟨some 80, .mov (.tmp 1), none⟩, ⟨some 81, .call 18 [(.tmp 79), (.tmp 80)], none⟩, ⟨some 77, .mov (.tmp 81), none⟩, ⟨some 82, .ext (.tmp 77) 0, none⟩, ⟨some 83, .ext (.tmp 77) 1, none⟩, ⟨some 14, .new [(.slice none 0 0), (.slice none 0 0), (.int .i64 0), (.int .i64 0), (.slice none 0 0), (.slice none 0 0)], none⟩, ⟨none, .store 6 (.tmp 14) (.tmp 82), none⟩, ⟨some 15, .mov (.tmp 83), none⟩]) (.seq (.seq (.ops [⟨some 84, .load 6 true (.tmp 14), none⟩, ⟨some 85, .load 6 true (.tmp 6), none⟩, ⟨some 86, .call 12 [(.tmp 84), (.tmp 85)], none⟩, ⟨some 87, .una .not (.tmp 86), none⟩, ⟨some 88, .mov (.tmp 87), none⟩, ⟨some 89, .mov (.tmp 15), some (88, false)⟩, ⟨some 90, .mov (.tmp 7), some (88, false)⟩, ⟨some 91, .beq true (.tmp 89) (.tmp 90), some (88, false)⟩, ⟨some 92, .pick (.tmp 88) (.const (.bool true)) (.tmp 91), none⟩]) (.cond (.tmp 92) (.seq (.ops [⟨some 4, .mov (.const (.bool false)), none⟩]) .ret) .skip)) (.seq (.ops [⟨some 13, .mov (.const (.int .i64 1)), none⟩]) (.seq (.ops [⟨some 93, .load 6 true (.tmp 9), none⟩, ⟨some 94, .mov (.tmp 13), none⟩, ⟨some 95, .call 14 [(.tmp 93), (.tmp 94)], none⟩, ⟨some 13, .mov (.tmp 95), none⟩]) (.seq (.seq (.ops [⟨some 96, .mov (.tmp 13), none⟩, ⟨some 97, .bin .lss (.tmp 96) (.const (.int .i64 0)), none⟩]) (.cond (.tmp 97) (.seq (.ops [⟨some 4, .mov (.const (.bool false)), none⟩]) .ret) .skip)) (.seq (.seq (.ops [⟨some 98, .mov (.tmp 13), none⟩, ⟨some 99, .mov (.tmp 12), none⟩, ⟨some 100, .bin .neq (.tmp 98) (.tmp 99), none⟩]) (.cond (.tmp 100) (.seq (.ops [⟨some 4, .mov (.const (.bool false)), none⟩]) .ret) .skip)) (.seq (.ops [⟨some 4, .mov (.const (.bool true)), none⟩]) .ret)))))))))))))))))))))))))
@[reducible] def rv5 : List RV := [.tmp 4]
theorem low5 : lowC Try.prog tau Try.f5.ntmps (Try.f5.body.getD .skip) = some (erase ic5) := by kernel_rfl
theorem res5 : lowR Try.prog Try.f5.results.toList = some rv5 := by kernel_rfl
theorem bod5 : Try.f5.body = some (Try.f5.body.getD .skip) := by kernel_rfl
theorem cal5 : callable Try.prog 5 = true := by kernel_rfl

end Go.Proofs.YtfgefmkcmkihhaaE

/-! The law of Carry. -/
namespace Go.Proofs.YtfgefmkcmkihhaaE
open Go Go.RowKit
set_option linter.unusedSimpArgs false
set_option linter.unusedVariables false
set_option maxRecDepth 20000

theorem carried_len (t : Tr) (s : Int) (hs : 0 ≤ s ∧ s ≤ 1) : (carried t s).c0.length = t.c0.length ∧ (carried t s).c1.length = t.c1.length ∧ (carried t s).q0.length ≤ t.q0.length + 1 ∧ (carried t s).q1.length ≤ t.q1.length + 1 := by
  have : s = 0 ∨ s = 1 := by omega
  unfold carried
  rcases this with rfl | rfl <;> dsimp only <;> split <;> split <;> simp [Tr.setC, Tr.setQ, Tr.c, Tr.q, Tr.lose] <;> omega
theorem carry_len {t g : Tr} {s : Int} {b : Bool} (h : carry t s = (g, b)) : g.c0.length = t.c0.length ∧ g.c1.length = t.c1.length ∧ g.q0.length ≤ t.q0.length + 1 ∧ g.q1.length ≤ t.q1.length + 1 := by
  by_cases hl : carryOk t s
  · rw [carry_yes hl] at h
    cases h
    exact carried_len t s hl.2.1
  · rw [carry_no hl] at h
    cases h
    simp
def spLaw5 : Spec := ⟨fun _ => [], fun args objs K => match args, objs with
  | [.agg [.rs .int c0, .rs .int c1, .v (.int .i64 x), .v (.int .i64 y), .rs .note q0, .rs .note q1], .v (.int .i64 side)], [] => (c0.length ≤ 17592186044416 ∧ c1.length ≤ 17592186044416 ∧ q0.length ≤ 17592186044416 ∧ q1.length ≤ 17592186044416) ∧ K (.v (.bool true)) [] 0
  | _, _ => False⟩
theorem spLaw5_t {a : List AVal} : spLaw5.take a = [] := id rfl
theorem spLaw5_f {c0} {c1} {x} {y} {q0} {q1} {side} {K : AVal → Hp → Nat → Prop} : Spec.f spLaw5 ([.agg [.rs .int c0, .rs .int c1, .v (.int .i64 x), .v (.int .i64 y), .rs .note q0, .rs .note q1], .v (.int .i64 side)]) ([]) K = ((c0.length ≤ 17592186044416 ∧ c1.length ≤ 17592186044416 ∧ q0.length ≤ 17592186044416 ∧ q1.length ≤ 17592186044416) ∧ K (.v (.bool true)) [] 0) := id rfl
theorem valid5 : Valid Try.prog 5 spLaw5 := by
  refine validI (Γ := lk [(8, spSzTr), (17, spCarry), (10, spToTr), (18, spCarry), (12, spEqTr), (13, spMarkTr), (14, spHeldTr)]) Try.func5 bod5 low5 res5 (good_of ⟨⟨cal8, valid8⟩, ⟨cal17, valid17⟩, ⟨cal10, valid10⟩, ⟨cal18, valid18⟩, ⟨cal12, valid12⟩, ⟨cal13, valid13⟩, ⟨cal14, valid14⟩, trivial⟩) ?_
  intro E args objs K h hE hG hP
  simp only [spLaw5] at h
  split at h
  · refine ⟨by simp [Try.ntmps5], ?_⟩
    rename_i c0 c1 x y q0 q1 side
    obtain ⟨⟨b1, b2, b3, b4⟩, h⟩ := h
    rcases hl : carry ⟨c0, c1, x, y, q0, q1⟩ side with ⟨⟨d0, d1, x', y', p0, p1⟩, b⟩
    have hlen : d0.length = c0.length ∧ d1.length = c1.length ∧ p0.length ≤ q0.length + 1 ∧ p1.length ≤ q1.length + 1 := carry_len hl
    simp only [go_sem, hG, hP, Nat.reduceEqDiff, ↓reduceIte, reduceCtorEq, Nat.reduceAdd, Nat.reduceSub, Nat.reduceMul, Nat.reduceLT, Nat.reduceLeDiff, Int.reduceAdd, Int.reduceSub, Int.reduceMul, Int.reduceLT, Int.reduceLE, Int.reduceEq, Int.reduceNeg, Int.reduceNe, Int.reduceGE, Int.reduceGT, Nat.reduceBEq, Int.reduceToNat,  spSzTr_f, spSzTr_t, spCarry_f, spCarry_t, spToTr_f, spToTr_t, spEqTr_f, spEqTr_t, spMarkTr_f, spMarkTr_t, spHeldTr_f, spHeldTr_t, hl, trA_eq, trL_eq, takeA6_eq, bb_self, m_c0, m_c1, m_q0, m_q1, markEnd_eq, take_im, take_nm, intMarks_len, noteMarks_len, held_marked]
    repeat (refine And.intro (by first | omega | (simp; done) | (simp; omega) | (unfold appRoom; omega)) ?_)
    refine ⟨fun hs => ⟨_, _, _, ?_, h⟩, fun hs => ?_⟩
    · simp only [go_sem, hG, hP, Nat.reduceEqDiff, ↓reduceIte, reduceCtorEq, Nat.reduceAdd, Nat.reduceSub, Nat.reduceMul, Nat.reduceLT, Nat.reduceLeDiff, Int.reduceAdd, Int.reduceSub, Int.reduceMul, Int.reduceLT, Int.reduceLE, Int.reduceEq, Int.reduceNeg, Int.reduceNe, Int.reduceGE, Int.reduceGT, Nat.reduceBEq, Int.reduceToNat]
    have hz := szTr_len (by omega) hs
    repeat (refine And.intro (by first | omega | (simp; done) | (simp; omega) | (unfold appRoom; omega)) ?_)
    refine ⟨fun _ => ?_, fun hx => absurd hx (by omega)⟩
    repeat (refine And.intro (by first | omega | (simp; done) | (simp; omega) | (unfold appRoom; omega)) ?_)
    intro _
    repeat (refine And.intro (by first | omega | (simp; done) | (simp; omega) | (unfold appRoom; omega)) ?_)
    intro _
    refine ⟨_, _, _, ?_, h⟩
    simp only [go_sem, hG, hP, Nat.reduceEqDiff, ↓reduceIte, reduceCtorEq, Nat.reduceAdd, Nat.reduceSub, Nat.reduceMul, Nat.reduceLT, Nat.reduceLeDiff, Int.reduceAdd, Int.reduceSub, Int.reduceMul, Int.reduceLT, Int.reduceLE, Int.reduceEq, Int.reduceNeg, Int.reduceNe, Int.reduceGE, Int.reduceGT, Nat.reduceBEq, Int.reduceToNat]
    all_goals simp
  · exact h.elim
end Go.Proofs.YtfgefmkcmkihhaaE

/-! The code of a function, in the engine's words. -/
namespace Go.Proofs.YtfgefmkcmkihhaaE
open Go Go.RowKit
@[reducible] def ic19 : IC := (.seq (.ops [⟨some 1, .box (.tmp 0), none⟩, ⟨some 2, .new [(.slice none 0 0), (.slice none 0 0), (.int .i64 0), (.int .i64 0), (.slice none 0 0), (.slice none 0 0)], none⟩]) (.seq (.ops [⟨some 6, .load 6 true (.tmp 1), none⟩, ⟨some 7, .call 29 [(.tmp 6)], none⟩, ⟨none, .store 6 (.tmp 1) (.tmp 7), none⟩]) (.seq (.ops [⟨some 8, .load 6 true (.tmp 1), none⟩, ⟨some 9, .call 24 [(.tmp 8)], none⟩, ⟨some 3, .mov (.tmp 9), none⟩]) (.seq (.ops [⟨some 10, .load 6 true (.tmp 1), none⟩, ⟨some 11, .call 29 [(.tmp 10)], none⟩, ⟨some 4, .new [(.slice none 0 0), (.slice none 0 0), (.int .i64 0), (.int .i64 0), (.slice none 0 0), (.slice none 0 0)], none⟩, ⟨none, .store 6 (.tmp 4) (.tmp 11), none⟩]) (.seq (.block 0 (.loop (.seq (.seq (.ops [⟨some 12, .mov (.tmp 3), none⟩, ⟨some 13, .mov (.tmp 12), none⟩, ⟨some 14, .fadr 4 (.tmp 4), some (13, true)⟩, ⟨some 15, .iarr 1 2 (.tmp 14) (.const (.int .i64 0)), some (13, true)⟩, ⟨some 16, .load 1 false (.tmp 15), some (13, true)⟩, ⟨some 17, .len (.tmp 16), some (13, true)⟩, ⟨some 18, .fadr 4 (.tmp 4), some (13, true)⟩, ⟨some 19, .iarr 1 2 (.tmp 18) (.const (.int .i64 1)), some (13, true)⟩, ⟨some 20, .load 1 false (.tmp 19), some (13, true)⟩, ⟨some 21, .len (.tmp 20), some (13, true)⟩, ⟨some 22, .bin .add (.tmp 17) (.tmp 21), some (13, true)⟩, ⟨some 23, .bin .gtr (.tmp 22) (.const (.int .i64 0)), some (13, true)⟩, ⟨some 24, .pick (.tmp 13) (.tmp 23) (.const (.bool false)), none⟩]) (.cond (.tmp 24) .skip (.exit 0))) (.block 1 (.seq (.ops [⟨some 5, .mov (.const (.int .i64 0)), none⟩]) (.seq (.seq (.ops [⟨some 25, .fadr 4 (.tmp 4), none⟩, ⟨some 26, .iarr 1 2 (.tmp 25) (.const (.int .i64 0)), none⟩, ⟨some 27, .load 1 false (.tmp 26), none⟩, ⟨some 28, .len (.tmp 27), none⟩, ⟨some 29, .bin .eql (.tmp 28) (.const (.int .i64 0)), none⟩]) (.cond (.tmp 29) (.ops [⟨some 5, .mov (.const (.int .i64 1)), none⟩]) .skip)) (.ops [⟨some 31, .load 6 true (.tmp 4), none⟩, ⟨some 32, .mov (.tmp 5), none⟩, ⟨some 33, .call 17 [(.tmp 31), (.tmp 32)], none⟩, ⟨some 30, .mov (.tmp 33), none⟩, ⟨some 34, .ext (.tmp 30) 0, none⟩, ⟨some 35, .ext (.tmp 30) 1, none⟩, ⟨none, .store 6 (.tmp 4) (.tmp 34), none⟩, ⟨some 3, .mov (.tmp 35), none⟩]))))))) (.seq (.seq (.ops [⟨some 36, .mov (.tmp 3), none⟩, ⟨some 37, .una .not (.tmp 36), none⟩]) (.cond (.tmp 37) (.seq (.ops [⟨some 38, .load 6 true (.tmp 1), none⟩, ⟨none, .store 6 (.tmp 2) (.tmp 38), none⟩]) .ret) .skip)) (.seq (.ops [⟨some 39, .load 6 true (.tmp 4), none⟩, ⟨none, .store 6 (.tmp 2) (.tmp 39), none⟩]) .ret)))))))
@[reducible] def rv19 : List RV := [.cell 2 6 true]
theorem low19 : lowC Try.prog tau Try.f19.ntmps (Try.f19.body.getD .skip) = some (erase ic19) := by kernel_rfl
theorem res19 : lowR Try.prog Try.f19.results.toList = some rv19 := by kernel_rfl
theorem bod19 : Try.f19.body = some (Try.f19.body.getD .skip) := by kernel_rfl
theorem cal19 : callable Try.prog 19 = true := by kernel_rfl

end Go.Proofs.YtfgefmkcmkihhaaE

/-! The code of a function, in the engine's words. -/
namespace Go.Proofs.YtfgefmkcmkihhaaE
open Go Go.RowKit
@[reducible] def ic20 : IC := (.seq (.ops [⟨some 1, .box (.tmp 0), none⟩, ⟨some 2, .new [(.slice none 0 0), (.slice none 0 0), (.int .i64 0), (.int .i64 0), (.slice none 0 0), (.slice none 0 0)], none⟩]) (.seq (.ops [⟨some 6, .load 6 true (.tmp 1), none⟩, ⟨some 7, .call 35 [(.tmp 6)], none⟩, ⟨some 3, .new [(.slice none 0 0), (.slice none 0 0), (.int .i64 0), (.int .i64 0), (.slice none 0 0), (.slice none 0 0)], none⟩, ⟨none, .store 6 (.tmp 3) (.tmp 7), none⟩]) (.seq (.ops [⟨some 8, .load 6 true (.tmp 1), none⟩, ⟨some 9, .call 35 [(.tmp 8)], none⟩, ⟨none, .store 6 (.tmp 1) (.tmp 9), none⟩]) (.seq (.seq (.ops [⟨some 10, .load 6 true (.tmp 1), none⟩, ⟨some 11, .call 36 [(.tmp 10)], none⟩, ⟨some 12, .una .not (.tmp 11), none⟩]) (.cond (.tmp 12) (.seq (.ops [⟨some 13, .load 6 true (.tmp 3), none⟩, ⟨none, .store 6 (.tmp 2) (.tmp 13), none⟩]) .ret) .skip)) (.seq (.block 0 (.loop (.seq (.seq (.ops [⟨some 14, .fadr 4 (.tmp 1), none⟩, ⟨some 15, .iarr 1 2 (.tmp 14) (.const (.int .i64 0)), none⟩, ⟨some 16, .load 1 false (.tmp 15), none⟩, ⟨some 17, .len (.tmp 16), none⟩, ⟨some 18, .fadr 4 (.tmp 1), none⟩, ⟨some 19, .iarr 1 2 (.tmp 18) (.const (.int .i64 1)), none⟩, ⟨some 20, .load 1 false (.tmp 19), none⟩, ⟨some 21, .len (.tmp 20), none⟩, ⟨some 22, .bin .add (.tmp 17) (.tmp 21), none⟩, ⟨some 23, .bin .gtr (.tmp 22) (.const (.int .i64 0)), none⟩]) (.cond (.tmp 23) .skip (.exit 0))) (.block 1 (.seq (.ops [⟨some 4, .mov (.const (.int .i64 0)), none⟩]) (.seq (.seq (.ops [⟨some 24, .fadr 4 (.tmp 1), none⟩, ⟨some 25, .iarr 1 2 (.tmp 24) (.const (.int .i64 0)), none⟩, ⟨some 26, .load 1 false (.tmp 25), none⟩, ⟨some 27, .len (.tmp 26), none⟩, ⟨some 28, .bin .eql (.tmp 27) (.const (.int .i64 0)), none⟩]) (.cond (.tmp 28) (.ops [⟨some 4, .mov (.const (.int .i64 1)), none⟩]) .skip)) (.seq (.ops [⟨some 5, .mov (.const (.bool false)), none⟩]) (.seq (.ops [⟨some 30, .load 6 true (.tmp 1), none⟩, ⟨some 31, .mov (.tmp 4), none⟩, ⟨some 32, .call 18 [(.tmp 30), (.tmp 31)], none⟩, ⟨some 29, .mov (.tmp 32), none⟩, ⟨some 33, .ext (.tmp 29) 0, none⟩, ⟨some 34, .ext (.tmp 29) 1, none⟩, ⟨none, .store 6 (.tmp 1) (.tmp 33), none⟩, ⟨some 5, .mov (.tmp 34), none⟩]) (.seq (.ops [⟨some 35, .mov (.tmp 5), none⟩, ⟨some 36, .una .not (.tmp 35), none⟩]) (.cond (.tmp 36) (.seq (.ops [⟨some 37, .load 6 true (.tmp 3), none⟩, ⟨none, .store 6 (.tmp 2) (.tmp 37), none⟩]) .ret) .skip)))))))))) (.seq (.ops [⟨some 38, .load 6 true (.tmp 1), none⟩, ⟨none, .store 6 (.tmp 2) (.tmp 38), none⟩]) .ret))))))
@[reducible] def rv20 : List RV := [.cell 2 6 true]
theorem low20 : lowC Try.prog tau Try.f20.ntmps (Try.f20.body.getD .skip) = some (erase ic20) := by kernel_rfl
theorem res20 : lowR Try.prog Try.f20.results.toList = some rv20 := by kernel_rfl
theorem bod20 : Try.f20.body = some (Try.f20.body.getD .skip) := by kernel_rfl
theorem cal20 : callable Try.prog 20 = true := by kernel_rfl

end Go.Proofs.YtfgefmkcmkihhaaE

/-! The code of a function, in the engine's words. -/
namespace Go.Proofs.YtfgefmkcmkihhaaE
open Go Go.RowKit
@[reducible] def ic6 : IC := (.seq (.ops [⟨some 1, .box (.tmp 0), none⟩, ⟨some 2, .mov (.const (.bool false)), none⟩]) (.seq (.ops [⟨some 3, .mov (.const (.int .i64 1048576)), none⟩]) (.seq (.ops [⟨some 11, .load 6 true (.tmp 1), none⟩, ⟨some 12, .mov (.tmp 3), none⟩, ⟨some 13, .call 8 [(.tmp 11), (.tmp 12)], none⟩, ⟨some 3, .mov (.tmp 13), none⟩]) (.seq (.seq (.ops [⟨some 14, .mov (.tmp 3), none⟩, ⟨some 15, .bin .lss (.tmp 14) (.const (.int .i64 0)), none⟩]) (.cond (.tmp 15) (.seq (.ops [⟨some 2, .mov (.const (.bool true)), none⟩]) .ret) .skip)) (.seq (.ops [⟨some 16, .load 6 true (.tmp 1), none⟩, ⟨some 17, .call 10 [(.tmp 16)], none⟩, ⟨some 18, .call 19 [(.tmp 17)], none⟩, ⟨some 4, .new [(.slice none 0 0), (.slice none 0 0), (.int .i64 0), (.int .i64 0), (.slice none 0 0), (.slice none 0 0)], none⟩, ⟨none, .store 6 (.tmp 4) (.tmp 18), none⟩]) (.seq (.ops [⟨some 19, .load 6 true (.tmp 1), none⟩, ⟨some 20, .call 10 [(.tmp 19)], none⟩, ⟨some 5, .new [(.slice none 0 0), (.slice none 0 0), (.int .i64 0), (.int .i64 0), (.slice none 0 0), (.slice none 0 0)], none⟩, ⟨none, .store 6 (.tmp 5) (.tmp 20), none⟩]) (.seq (.ops [⟨some 21, .load 6 true (.tmp 5), none⟩, ⟨some 22, .call 20 [(.tmp 21)], none⟩, ⟨some 6, .new [(.slice none 0 0), (.slice none 0 0), (.int .i64 0), (.int .i64 0), (.slice none 0 0), (.slice none 0 0)], none⟩, ⟨none, .store 6 (.tmp 6) (.tmp 22), none⟩]) (.seq (.seq (.ops [⟨some 23, .load 6 true (.tmp 6), none⟩, ⟨some 24, .load 6 true (.tmp 4), none⟩, ⟨some 25, .call 12 [(.tmp 23), (.tmp 24)], none⟩, ⟨some 26, .una .not (.tmp 25), none⟩]) (.cond (.tmp 26) (.seq (.ops [⟨some 2, .mov (.const (.bool false)), none⟩]) .ret) .skip)) (.seq (.seq (.draw [⟨some 27, .load 6 true (.tmp 5), none⟩, ⟨some 28, .load 6 true (.tmp 1), none⟩, ⟨some 29, .call 10 [(.tmp 28)], none⟩, ⟨some 30, .call 12 [(.tmp 27), (.tmp 29)], none⟩, ⟨some 31, .una .not (.tmp 30), none⟩] (.held ⟨some 27, .load 6 true (.tmp 5), none⟩ (.held ⟨some 28, .load 6 true (.tmp 1), none⟩ (.alt ⟨some 29, .call 10 [(.tmp 28)], none⟩ (.alt ⟨some 30, .call 12 [(.tmp 27), (.tmp 29)], none⟩ (.held ⟨some 31, .una .not (.tmp 30), none⟩ .done) .stop) .stop)))) (.cond (.tmp 31) (.seq (.ops [⟨some 2, .mov (.const (.bool false)), none⟩]) .ret) .skip)) (.seq (.ops [⟨some 7, .mov (.const (.int .i64 1)), none⟩]) (.seq (.ops [⟨some 32, .load 6 true (.tmp 5), none⟩, ⟨some 33, .mov (.tmp 7), none⟩, ⟨some 34, .call 13 [(.tmp 32), (.tmp 33)], none⟩, ⟨some 7, .mov (.tmp 34), none⟩]) (.seq (.seq (.ops [⟨some 35, .mov (.tmp 7), none⟩, ⟨some 36, .bin .lss (.tmp 35) (.const (.int .i64 0)), none⟩, ⟨some 37, .mov (.tmp 36), none⟩, ⟨some 38, .load 6 true (.tmp 6), some (37, false)⟩, ⟨some 39, .load 6 true (.tmp 4), some (37, false)⟩, ⟨some 40, .call 12 [(.tmp 38), (.tmp 39)], some (37, false)⟩, ⟨some 41, .una .not (.tmp 40), some (37, false)⟩, ⟨some 42, .pick (.tmp 37) (.const (.bool true)) (.tmp 41), none⟩]) (.cond (.tmp 42) (.seq (.ops [⟨some 2, .mov (.const (.bool false)), none⟩]) .ret) .skip)) (.seq (.ops [⟨some 8, .mov (.const (.int .i64 1)), none⟩]) (.seq (.ops [⟨some 43, .load 6 true (.tmp 6), none⟩, ⟨some 44, .mov (.tmp 8), none⟩, ⟨some 45, .call 13 [(.tmp 43), (.tmp 44)], none⟩, ⟨some 8, .mov (.tmp 45), none⟩]) (.seq (.ops [⟨some 9, .mov (.const (.int .i64 1)), none⟩]) (.seq (.ops [⟨some 46, .load 6 true (.tmp 6), none⟩, ⟨some 47, .mov (.tmp 9), none⟩, ⟨some 48, .call 14 [(.tmp 46), (.tmp 47)], none⟩, ⟨some 9, .mov (.tmp 48), none⟩]) (.seq (.seq (.ops [⟨some 49, .mov (.tmp 9), none⟩, ⟨some 50, .bin .lss (.tmp 49) (.const (.int .i64 0)), none⟩]) (.cond (.tmp 50) (.seq (.ops [⟨some 2, .mov (.const (.bool false)), none⟩]) .ret) .skip)) (.seq (.seq (.ops [⟨some 51, .mov (.tmp 9), none⟩, ⟨some 52, .mov (.tmp 8), none⟩, ⟨some 53, .bin .neq (.tmp 51) (.tmp 52), none⟩]) (.cond (.tmp 53) (.seq (.ops [⟨some 2, .mov (.const (.bool false)), none⟩]) .ret) .skip)) (.seq (.ops [⟨some 54, .load 6 true (.tmp 1), none⟩, ⟨some 55, .call 10 [(.tmp 54)], none⟩, ⟨some 56, .call 20 [(.tmp 55)], none⟩, ⟨some 10, .new [(.slice none 0 0), (.slice none 0 0), (.int .i64 0), (.int .i64 0), (.slice none 0 0), (.slice none 0 0)], none⟩, ⟨none, .store 6 (.tmp 10) (.tmp 56), none⟩]) (.seq (.seq (.ops [⟨some 57, .load 6 true (.tmp 10), none⟩, ⟨some 58, .load 6 true (.tmp 4), none⟩, ⟨some 59, .call 12 [(.tmp 57), (.tmp 58)], none⟩, ⟨some 60, .una .not (.tmp 59), none⟩]) (.cond (.tmp 60) (.seq (.ops [⟨some 2, .mov (.const (.bool false)), none⟩]) .ret) .skip)) (.seq (.ops [⟨some 9, .mov (.const (.int .i64 1)), none⟩]) (.seq (.ops [⟨some 61, .load 6 true (.tmp 6), none⟩, ⟨some 62, .mov (.tmp 9), none⟩, ⟨some 63, .call 14 [(.tmp 61), (.tmp 62)], none⟩, ⟨some 9, .mov (.tmp 63), none⟩]) (.seq (.seq (.ops [⟨some 64, .mov (.tmp 9), none⟩, ⟨some 65, .bin .lss (.tmp 64) (.const (.int .i64 0)), none⟩]) (.cond (.tmp 65) (.seq (.ops [⟨some 2, .mov (.const (.bool false)), none⟩]) .ret) .skip)) (.seq (.seq (.ops [⟨some 66, .mov (.tmp 9), none⟩, ⟨some 67, .mov (.tmp 8), none⟩, ⟨some 68, .bin .neq (.tmp 66) (.tmp 67), none⟩]) (.cond (.tmp 68) (.seq (.ops [⟨some 2, .mov (.const (.bool false)), none⟩]) .ret) .skip)) (.seq (.ops [⟨some 2, .mov (.const (.bool true)), none⟩]) .ret)))))))))))))))))))))))))
@[reducible] def rv6 : List RV := [.tmp 2]
theorem low6 : lowC Try.prog tau Try.f6.ntmps (Try.f6.body.getD .skip) = some (erase ic6) := by kernel_rfl
theorem res6 : lowR Try.prog Try.f6.results.toList = some rv6 := by kernel_rfl
theorem bod6 : Try.f6.body = some (Try.f6.body.getD .skip) := by kernel_rfl
theorem cal6 : callable Try.prog 6 = true := by kernel_rfl

end Go.Proofs.YtfgefmkcmkihhaaE
