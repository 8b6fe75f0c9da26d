/- A part of a proof that a law of the given program holds for every input: no condition. -/
import Derived.Test.YtiakjdcognckpaaProg
import Derived.KernelRfl
import Derived.Test.YtiakjdcognckpaaKFnClearedBoth1

set_option linter.unusedSimpArgs false
set_option linter.unusedVariables false
/-! Whether a Duo is right. -/
namespace Go.Proofs.YtiakjdcognckpaaE
open Go Go.RowKit
set_option linter.unusedSimpArgs false
set_option linter.unusedVariables false
set_option maxRecDepth 20000

def sigOk (x : Int) (s : Sig) : Bool := decide (0 ≤ s.to ∧ s.to ≤ 1) && decide (1 ≤ s.kind ∧ s.kind ≤ 4) && decide (0 ≤ s.call ∧ s.call ≤ x)
def headP (a x b y : Int) : Prop := (0 ≤ a ∧ a ≤ 4) ∧ (0 ≤ b ∧ b ≤ 4) ∧ a ≠ 2 ∧ b ≠ 1 ∧ (0 ≤ x ∧ x ≤ 1000) ∧ (0 ≤ y ∧ y ≤ x)
instance {a x b y : Int} : Decidable (headP a x b y) := by unfold headP; infer_instance
def duOk (d : Du) : Bool := decide (headP d.a d.x d.b d.y) && d.q.all (sigOk d.x) && decide (d.q.length ≤ 40)
theorem all_yes {α : Type} {xs : List α} {P : α → Bool} {d : α} {j : Nat} (h : ∀ i, i < j → P (xs.getD i d) = true) (hj : j = xs.length) : xs.all P = true := by
  subst hj
  rw [List.all_eq_true]
  intro x hx
  obtain ⟨i, hi, rfl⟩ := List.mem_iff_getElem.1 hx
  have := h i hi
  rwa [List.getD_eq_getElem?_getD, List.getElem?_eq_getElem hi] at this
theorem all_no {α : Type} {xs : List α} {P : α → Bool} {d : α} {j : Nat} (hj : j < xs.length) (h : P (xs.getD j d) = false) : xs.all P = false := by
  rw [List.all_eq_false]
  refine ⟨xs[j], List.getElem_mem hj, ?_⟩
  rw [List.getD_eq_getElem?_getD, List.getElem?_eq_getElem hj] at h
  simpa using h
theorem upto_succ {P : Nat → Prop} {j : Nat} (h : ∀ i, i < j → P i) (h2 : P j) : ∀ i, i < j + 1 → P i := fun i hi => by
  by_cases e : i = j
  · rw [e]; exact h2
  · exact h i (by omega)
theorem duOk_head_no {a x b y : Int} {q : List Sig} (h : ¬ headP a x b y) : duOk ⟨a, x, b, y, q⟩ = false := by simp only [duOk, decide_eq_false h, Bool.false_and]
theorem duOk_len_no {a x b y : Int} {q : List Sig} (h : ¬ q.length ≤ 40) : duOk ⟨a, x, b, y, q⟩ = false := by simp only [duOk, decide_eq_false h, Bool.and_false]
theorem duOk_sig_no {a x b y : Int} {q : List Sig} {j : Nat} (hj : j < q.length) (h : sigOk x (q.getD j ⟨0, 0, 0⟩) = false) : duOk ⟨a, x, b, y, q⟩ = false := by simp only [duOk, all_no hj h, Bool.and_false, Bool.false_and]
theorem duOk_yes {a x b y : Int} {q : List Sig} (h1 : headP a x b y) (h2 : q.all (sigOk x) = true) (h3 : q.length ≤ 40) : duOk ⟨a, x, b, y, q⟩ = true := by simp only [duOk, decide_eq_true h1, h2, decide_eq_true h3, Bool.and_true]
theorem sigOk_no {x : Int} {s : Sig} (h : ¬ ((0 ≤ s.to ∧ s.to ≤ 1) ∧ (1 ≤ s.kind ∧ s.kind ≤ 4) ∧ (0 ≤ s.call ∧ s.call ≤ x))) : sigOk x s = false := by
  unfold sigOk
  by_cases h1 : 0 ≤ s.to ∧ s.to ≤ 1
  · by_cases h2 : 1 ≤ s.kind ∧ s.kind ≤ 4
    · by_cases h3 : 0 ≤ s.call ∧ s.call ≤ x
      · exact absurd ⟨h1, h2, h3⟩ h
      · rw [decide_eq_false h3]; simp
    · rw [decide_eq_false h2]; simp
  · rw [decide_eq_false h1]; simp
theorem sigOk_yes {x : Int} {s : Sig} (h : (0 ≤ s.to ∧ s.to ≤ 1) ∧ (1 ≤ s.kind ∧ s.kind ≤ 4) ∧ (0 ≤ s.call ∧ s.call ≤ x)) : sigOk x s = true := by
  unfold sigOk
  rw [decide_eq_true h.1, decide_eq_true h.2.1, decide_eq_true h.2.2]; rfl
def spDuOk : Spec := ⟨fun _ _ => [], fun args objs K => match args, objs with
  | [.agg [.v (.int .i64 a), .v (.int .i64 x), .v (.int .i64 b), .v (.int .i64 y), .rs .sig q]], [] => q.length ≤ 1099511627776 ∧ K (.v (.bool (duOk ⟨a, x, b, y, q⟩))) [] 0
  | _, _ => False, false⟩
theorem spDuOk_t {L : Hp} {a : List AVal} : Spec.take spDuOk L a = [] := id rfl
theorem spDuOk_k : Spec.keep spDuOk = false := id rfl
theorem spDuOk_f {a} {x} {b} {y} {q} {K : AVal → Hp → Nat → Prop} : Spec.f spDuOk ([.agg [.v (.int .i64 a), .v (.int .i64 x), .v (.int .i64 b), .v (.int .i64 y), .rs .sig q]]) ([]) K = (q.length ≤ 1099511627776 ∧ K (.v (.bool (duOk ⟨a, x, b, y, q⟩))) [] 0) := id rfl
theorem valid48 : Valid Try.prog 48 spDuOk := by
  refine validI (Γ := lk [(40, spIn)]) Try.func48 bod48 low48 res48 (good_of ⟨⟨cal40, valid40⟩, trivial⟩) ?_
  intro E args objs K h hE hG hP
  simp only [spDuOk] at h
  split at h
  · refine ⟨by simp [Try.ntmps48], ?_⟩
    rename_i a x b y q
    obtain ⟨b1, h⟩ := h
    simp (config := { maxSteps := 2000000 }) only [go_sem, hG, hP, Nat.reduceEqDiff, ↓reduceIte, reduceCtorEq, Nat.reduceAdd, Nat.reduceSub, Nat.reduceMul, Nat.reduceLT, Nat.reduceLeDiff, Int.reduceAdd, Int.reduceSub, Int.reduceMul, Int.reduceLT, Int.reduceLE, Int.reduceEq, Int.reduceNeg, Int.reduceNe, Int.reduceGE, Int.reduceGT, Nat.reduceBEq, Int.reduceToNat,  spIn_f, spIn_t, spIn_k]
    repeat' (first | (refine And.intro ?_ ?_) | (with_reducible intro _))
    all_goals try ((first | rw [duOk_head_no (by unfold headP; omega)] at h | rw [duOk_len_no (by omega)] at h); refine ⟨_, _, _, ?_, h⟩; simp (config := { maxSteps := 2000000 }) only [go_sem, hG, hP, Nat.reduceEqDiff, ↓reduceIte, reduceCtorEq, Nat.reduceAdd, Nat.reduceSub, Nat.reduceMul, Nat.reduceLT, Nat.reduceLeDiff, Int.reduceAdd, Int.reduceSub, Int.reduceMul, Int.reduceLT, Int.reduceLE, Int.reduceEq, Int.reduceNeg, Int.reduceNe, Int.reduceGE, Int.reduceGT, Nat.reduceBEq, Int.reduceToNat]; done)
    rename_i c1 c2 c3 c4 c5 c6 c7
    refine loopI hE (fun j : Nat => ⟨[(3, .ptr 1 0), (54, .rs .sig q), (55, .v (.int .i64 q.length)), (56, .v (.int .i64 j))], [(1, .box [.v (.int .i64 a), .v (.int .i64 x)])], 3, Try.f48.ntmps⟩) (fun j => j ≤ q.length ∧ ∀ i, i < j → sigOk x (q.getD i ⟨0, 0, 0⟩) = true) (fun j => q.length - j) ⟨0, ⟨Nat.zero_le _, fun i hi => absurd hi (Nat.not_lt_zero _)⟩, SubS.weak ?_⟩ ?_
    · simp (config := { maxSteps := 2000000 }) only [go_sem, hG, hP, Nat.reduceEqDiff, ↓reduceIte, reduceCtorEq, Nat.reduceAdd, Nat.reduceSub, Nat.reduceMul, Nat.reduceLT, Nat.reduceLeDiff, Int.reduceAdd, Int.reduceSub, Int.reduceMul, Int.reduceLT, Int.reduceLE, Int.reduceEq, Int.reduceNeg, Int.reduceNe, Int.reduceGE, Int.reduceGT, Nat.reduceBEq, Int.reduceToNat]
      repeat' (first | with_reducible rfl | (refine And.intro ?_ ?_) | (refine congrArg (Value.int _) ?_; omega) | omega)
    · intro j ⟨hj, hpre⟩
      simp (config := { maxSteps := 2000000 }) only [go_sem, hG, hP, Nat.reduceEqDiff, ↓reduceIte, reduceCtorEq, Nat.reduceAdd, Nat.reduceSub, Nat.reduceMul, Nat.reduceLT, Nat.reduceLeDiff, Int.reduceAdd, Int.reduceSub, Int.reduceMul, Int.reduceLT, Int.reduceLE, Int.reduceEq, Int.reduceNeg, Int.reduceNe, Int.reduceGE, Int.reduceGT, Nat.reduceBEq, Int.reduceToNat,  spIn_f, spIn_t, spIn_k]
      (try simp (disch := omega) only [wrap_id])
      refine ⟨fun hlt => ?_, fun hge => ?_⟩
      · repeat (refine And.intro (by first | omega | (simp; done) | (simp; omega) | (unfold appRoom; omega)) ?_)
        repeat' (first | (refine And.intro ?_ ?_) | (with_reducible intro _))
        all_goals try (rw [duOk_sig_no (j := j) (by omega) (sigOk_no (by omega))] at h; refine ⟨_, _, _, ?_, h⟩; simp (config := { maxSteps := 2000000 }) only [go_sem, hG, hP, Nat.reduceEqDiff, ↓reduceIte, reduceCtorEq, Nat.reduceAdd, Nat.reduceSub, Nat.reduceMul, Nat.reduceLT, Nat.reduceLeDiff, Int.reduceAdd, Int.reduceSub, Int.reduceMul, Int.reduceLT, Int.reduceLE, Int.reduceEq, Int.reduceNeg, Int.reduceNe, Int.reduceGE, Int.reduceGT, Nat.reduceBEq, Int.reduceToNat]; done)
        refine ⟨j + 1, ⟨⟨by omega, upto_succ hpre (sigOk_yes (by omega))⟩, by omega⟩, SubS.weak ?_⟩
        simp (config := { maxSteps := 2000000 }) only [go_sem, hG, hP, Nat.reduceEqDiff, ↓reduceIte, reduceCtorEq, Nat.reduceAdd, Nat.reduceSub, Nat.reduceMul, Nat.reduceLT, Nat.reduceLeDiff, Int.reduceAdd, Int.reduceSub, Int.reduceMul, Int.reduceLT, Int.reduceLE, Int.reduceEq, Int.reduceNeg, Int.reduceNe, Int.reduceGE, Int.reduceGT, Nat.reduceBEq, Int.reduceToNat]
        repeat' (first | with_reducible rfl | (refine And.intro ?_ ?_) | (refine congrArg (Value.int _) ?_; omega) | omega)
      · rw [duOk_yes (by unfold headP; omega) (all_yes hpre (by omega)) (by omega)] at h
        refine ⟨_, _, _, ?_, h⟩
        simp (config := { maxSteps := 2000000 }) only [go_sem, hG, hP, Nat.reduceEqDiff, ↓reduceIte, reduceCtorEq, Nat.reduceAdd, Nat.reduceSub, Nat.reduceMul, Nat.reduceLT, Nat.reduceLeDiff, Int.reduceAdd, Int.reduceSub, Int.reduceMul, Int.reduceLT, Int.reduceLE, Int.reduceEq, Int.reduceNeg, Int.reduceNe, Int.reduceGE, Int.reduceGT, Nat.reduceBEq, Int.reduceToNat]
  · exact h.elim
theorem valid32 : Valid Try.prog 32 spDuOk := by
  refine validI (Γ := lk [(38, spIn)]) Try.func32 bod32 low32 res32 (good_of ⟨⟨cal38, valid38⟩, trivial⟩) ?_
  intro E args objs K h hE hG hP
  simp only [spDuOk] at h
  split at h
  · refine ⟨by simp [Try.ntmps32], ?_⟩
    rename_i a x b y q
    obtain ⟨b1, h⟩ := h
    simp (config := { maxSteps := 2000000 }) only [go_sem, hG, hP, Nat.reduceEqDiff, ↓reduceIte, reduceCtorEq, Nat.reduceAdd, Nat.reduceSub, Nat.reduceMul, Nat.reduceLT, Nat.reduceLeDiff, Int.reduceAdd, Int.reduceSub, Int.reduceMul, Int.reduceLT, Int.reduceLE, Int.reduceEq, Int.reduceNeg, Int.reduceNe, Int.reduceGE, Int.reduceGT, Nat.reduceBEq, Int.reduceToNat,  spIn_f, spIn_t, spIn_k]
    repeat' (first | (refine And.intro ?_ ?_) | (with_reducible intro _))
    all_goals try ((first | rw [duOk_head_no (by unfold headP; omega)] at h | rw [duOk_len_no (by omega)] at h); refine ⟨_, _, _, ?_, h⟩; simp (config := { maxSteps := 2000000 }) only [go_sem, hG, hP, Nat.reduceEqDiff, ↓reduceIte, reduceCtorEq, Nat.reduceAdd, Nat.reduceSub, Nat.reduceMul, Nat.reduceLT, Nat.reduceLeDiff, Int.reduceAdd, Int.reduceSub, Int.reduceMul, Int.reduceLT, Int.reduceLE, Int.reduceEq, Int.reduceNeg, Int.reduceNe, Int.reduceGE, Int.reduceGT, Nat.reduceBEq, Int.reduceToNat]; done)
    rename_i c1 c2 c3 c4 c5 c6
    refine loopI hE (fun j : Nat => ⟨[(1, .ptr 0 0), (3, .ptr 1 0), (5, .v (.int .i64 j))], [(0, .box [.v (.int .i64 a), .v (.int .i64 x), .v (.int .i64 b), .v (.int .i64 y), .rs .sig q]), (1, .box [.v (.int .i64 a), .v (.int .i64 x)])], 3, Try.f32.ntmps⟩) (fun j => j ≤ q.length ∧ ∀ i, i < j → sigOk x (q.getD i ⟨0, 0, 0⟩) = true) (fun j => q.length - j) ⟨0, ⟨Nat.zero_le _, fun i hi => absurd hi (Nat.not_lt_zero _)⟩, SubS.weak ?_⟩ ?_
    · simp (config := { maxSteps := 2000000 }) only [go_sem, hG, hP, Nat.reduceEqDiff, ↓reduceIte, reduceCtorEq, Nat.reduceAdd, Nat.reduceSub, Nat.reduceMul, Nat.reduceLT, Nat.reduceLeDiff, Int.reduceAdd, Int.reduceSub, Int.reduceMul, Int.reduceLT, Int.reduceLE, Int.reduceEq, Int.reduceNeg, Int.reduceNe, Int.reduceGE, Int.reduceGT, Nat.reduceBEq, Int.reduceToNat]
      repeat' (first | with_reducible rfl | (refine And.intro ?_ ?_) | (refine congrArg (Value.int _) ?_; omega) | omega)
    · intro j ⟨hj, hpre⟩
      simp (config := { maxSteps := 2000000 }) only [go_sem, hG, hP, Nat.reduceEqDiff, ↓reduceIte, reduceCtorEq, Nat.reduceAdd, Nat.reduceSub, Nat.reduceMul, Nat.reduceLT, Nat.reduceLeDiff, Int.reduceAdd, Int.reduceSub, Int.reduceMul, Int.reduceLT, Int.reduceLE, Int.reduceEq, Int.reduceNeg, Int.reduceNe, Int.reduceGE, Int.reduceGT, Nat.reduceBEq, Int.reduceToNat,  spIn_f, spIn_t, spIn_k]
      (try simp (disch := omega) only [wrap_id])
      refine ⟨fun hlt => ?_, fun hge => ?_⟩
      · repeat (refine And.intro (by first | omega | (simp; done) | (simp; omega) | (unfold appRoom; omega)) ?_)
        repeat' (first | (refine And.intro ?_ ?_) | (with_reducible intro _))
        all_goals try (rw [duOk_sig_no (j := j) (by omega) (sigOk_no (by omega))] at h; refine ⟨_, _, _, ?_, h⟩; simp (config := { maxSteps := 2000000 }) only [go_sem, hG, hP, Nat.reduceEqDiff, ↓reduceIte, reduceCtorEq, Nat.reduceAdd, Nat.reduceSub, Nat.reduceMul, Nat.reduceLT, Nat.reduceLeDiff, Int.reduceAdd, Int.reduceSub, Int.reduceMul, Int.reduceLT, Int.reduceLE, Int.reduceEq, Int.reduceNeg, Int.reduceNe, Int.reduceGE, Int.reduceGT, Nat.reduceBEq, Int.reduceToNat]; done)
        refine ⟨j + 1, ⟨⟨by omega, upto_succ hpre (sigOk_yes (by omega))⟩, by omega⟩, SubS.weak ?_⟩
        simp (config := { maxSteps := 2000000 }) only [go_sem, hG, hP, Nat.reduceEqDiff, ↓reduceIte, reduceCtorEq, Nat.reduceAdd, Nat.reduceSub, Nat.reduceMul, Nat.reduceLT, Nat.reduceLeDiff, Int.reduceAdd, Int.reduceSub, Int.reduceMul, Int.reduceLT, Int.reduceLE, Int.reduceEq, Int.reduceNeg, Int.reduceNe, Int.reduceGE, Int.reduceGT, Nat.reduceBEq, Int.reduceToNat]
        repeat' (first | with_reducible rfl | (refine And.intro ?_ ?_) | (refine congrArg (Value.int _) ?_; omega) | omega)
      · by_cases hl : q.length ≤ 40
        · rw [duOk_yes (by unfold headP; omega) (all_yes hpre (by omega)) (by omega)] at h
          refine ⟨_, _, _, ?_, h⟩
          simp (config := { maxSteps := 2000000 }) only [go_sem, hG, hP, Nat.reduceEqDiff, ↓reduceIte, reduceCtorEq, Nat.reduceAdd, Nat.reduceSub, Nat.reduceMul, Nat.reduceLT, Nat.reduceLeDiff, Int.reduceAdd, Int.reduceSub, Int.reduceMul, Int.reduceLT, Int.reduceLE, Int.reduceEq, Int.reduceNeg, Int.reduceNe, Int.reduceGE, Int.reduceGT, Nat.reduceBEq, Int.reduceToNat]
          rw [decide_eq_true (by omega)]
        · rw [duOk_len_no (by omega)] at h
          refine ⟨_, _, _, ?_, h⟩
          simp (config := { maxSteps := 2000000 }) only [go_sem, hG, hP, Nat.reduceEqDiff, ↓reduceIte, reduceCtorEq, Nat.reduceAdd, Nat.reduceSub, Nat.reduceMul, Nat.reduceLT, Nat.reduceLeDiff, Int.reduceAdd, Int.reduceSub, Int.reduceMul, Int.reduceLT, Int.reduceLE, Int.reduceEq, Int.reduceNeg, Int.reduceNe, Int.reduceGE, Int.reduceGT, Nat.reduceBEq, Int.reduceToNat]
          rw [decide_eq_false (by omega)]
  · exact h.elim
end Go.Proofs.YtiakjdcognckpaaE

/-! The code of a function, in the engine's words. -/
namespace Go.Proofs.YtiakjdcognckpaaE
open Go Go.RowKit
@[reducible] def ic57 : IC := (.seq (.ops [⟨some 6, .mov (.const (.slice none 0 0)), none⟩]) (.seq (.ops [⟨some 8, .mov (.tmp 0), none⟩, ⟨some 9, .mov (.tmp 1), none⟩, ⟨some 10, .mov (.tmp 2), none⟩, ⟨some 11, .mov (.tmp 0), none⟩, ⟨some 12, .len (.tmp 11), none⟩, ⟨some 13, .slc3 (.tmp 8) (.tmp 9) (.tmp 10) (.tmp 12), none⟩]) (.seq (.seq (.ops [⟨some 14, .mov (.tmp 1), none⟩, ⟨some 15, .mov (.tmp 2), none⟩, ⟨some 16, .bin .eql (.tmp 14) (.tmp 15), none⟩]) (.cond (.tmp 16) (.seq (.ops [⟨some 17, .mov (.tmp 0), none⟩, ⟨some 6, .mov (.tmp 17), none⟩]) .ret) .skip)) (.seq (.ops [⟨some 18, .mov (.tmp 0), none⟩, ⟨some 19, .len (.tmp 18), none⟩, ⟨some 7, .mov (.tmp 19), none⟩]) (.seq (.draw [⟨some 20, .mov (.tmp 0), none⟩, ⟨some 21, .mov (.tmp 1), none⟩, ⟨some 22, .slc 3 (.tmp 20) none (some (.tmp 21)), none⟩, ⟨some 23, .mov (.tmp 0), none⟩, ⟨some 24, .mov (.tmp 2), none⟩, ⟨some 25, .slc 3 (.tmp 23) (some (.tmp 24)) none, none⟩, ⟨some 26, .app .sig 24 (.tmp 22) (.tmp 25), none⟩, ⟨some 0, .mov (.tmp 26), none⟩] (.held ⟨some 20, .mov (.tmp 0), none⟩ (.held ⟨some 21, .mov (.tmp 1), none⟩ (.held ⟨some 22, .slc 3 (.tmp 20) none (some (.tmp 21)), none⟩ (.held ⟨some 23, .mov (.tmp 0), none⟩ (.held ⟨some 24, .mov (.tmp 2), none⟩ (.held ⟨some 25, .slc 3 (.tmp 23) (some (.tmp 24)) none, none⟩ (.alt ⟨some 26, .app .sig 24 (.tmp 22) (.tmp 25), none⟩ (.held ⟨some 0, .mov (.tmp 26), none⟩ .done) .stop)))))))) (.seq (.ops [⟨some 27, .mov (.tmp 0), none⟩, ⟨some 28, .mov (.tmp 0), none⟩, ⟨some 29, .len (.tmp 28), none⟩, ⟨some 30, .mov (.tmp 7), none⟩, ⟨some 31, .slc 3 (.tmp 27) (some (.tmp 29)) (some (.tmp 30)), none⟩, ⟨none, .clr .sig (.tmp 31), none⟩]) (.seq (.ops [⟨some 32, .mov (.tmp 0), none⟩, ⟨some 6, .mov (.tmp 32), none⟩]) .ret)))))))
@[reducible] def rv57 : List RV := [.tmp 6]
theorem low57 : lowC Try.prog tau Try.f57.ntmps (Try.f57.body.getD .skip) = some (erase ic57) := by kernel_rfl
theorem res57 : lowR Try.prog Try.f57.results.toList = some rv57 := by kernel_rfl
theorem bod57 : Try.f57.body = some (Try.f57.body.getD .skip) := by kernel_rfl
theorem cal57 : callable Try.prog 57 = true := by kernel_rfl

end Go.Proofs.YtiakjdcognckpaaE

/-! The code of a function, in the engine's words. -/
namespace Go.Proofs.YtiakjdcognckpaaE
open Go Go.RowKit
@[reducible] def ic56 : IC := (.draw [⟨some 6, .mov (.tmp 0), none⟩, ⟨some 7, .mov (.tmp 0), none⟩, ⟨some 8, .nilc (.tmp 7), none⟩, ⟨some 9, .fadr 4 (.tmp 8), none⟩, ⟨some 10, .load 1 false (.tmp 9), none⟩, ⟨some 11, .mov (.tmp 1), none⟩, ⟨some 12, .bin .sub (.const (.int .i64 1)) (.tmp 11), none⟩, ⟨some 13, .mov (.tmp 2), none⟩, ⟨some 14, .mov (.tmp 0), none⟩, ⟨some 15, .mov (.tmp 1), none⟩, ⟨some 16, .nilc (.tmp 14), none⟩, ⟨some 17, .fadr 0 (.tmp 16), none⟩, ⟨some 18, .iarr 2 2 (.tmp 17) (.tmp 15), none⟩, ⟨some 19, .fadr 1 (.tmp 18), none⟩, ⟨some 20, .load 1 false (.tmp 19), none⟩, ⟨some 21, .bld [(.int .i64 0), (.int .i64 0), (.int .i64 0)] [(0, 1, (.tmp 12)), (1, 1, (.tmp 13)), (2, 1, (.tmp 20))], none⟩, ⟨some 22, .blds .sig 1 [(0, 3, (.tmp 21))], none⟩, ⟨some 23, .app .sig 24 (.tmp 10) (.tmp 22), none⟩, ⟨some 24, .nilc (.tmp 6), none⟩, ⟨some 25, .fadr 4 (.tmp 24), none⟩, ⟨none, .store 1 (.tmp 25) (.tmp 23), none⟩] (.held ⟨some 6, .mov (.tmp 0), none⟩ (.held ⟨some 7, .mov (.tmp 0), none⟩ (.held ⟨some 8, .nilc (.tmp 7), none⟩ (.held ⟨some 9, .fadr 4 (.tmp 8), none⟩ (.held ⟨some 10, .load 1 false (.tmp 9), none⟩ (.held ⟨some 11, .mov (.tmp 1), none⟩ (.held ⟨some 12, .bin .sub (.const (.int .i64 1)) (.tmp 11), none⟩ (.held ⟨some 13, .mov (.tmp 2), none⟩ (.held ⟨some 14, .mov (.tmp 0), none⟩ (.held ⟨some 15, .mov (.tmp 1), none⟩ (.held ⟨some 16, .nilc (.tmp 14), none⟩ (.held ⟨some 17, .fadr 0 (.tmp 16), none⟩ (.held ⟨some 18, .iarr 2 2 (.tmp 17) (.tmp 15), none⟩ (.held ⟨some 19, .fadr 1 (.tmp 18), none⟩ (.held ⟨some 20, .load 1 false (.tmp 19), none⟩ (.held ⟨some 21, .bld [(.int .i64 0), (.int .i64 0), (.int .i64 0)] [(0, 1, (.tmp 12)), (1, 1, (.tmp 13)), (2, 1, (.tmp 20))], none⟩ (.alt ⟨some 22, .blds .sig 1 [(0, 3, (.tmp 21))], none⟩ (.alt ⟨some 23, .app .sig 24 (.tmp 10) (.tmp 22), none⟩ (.held ⟨some 24, .nilc (.tmp 6), none⟩ (.held ⟨some 25, .fadr 4 (.tmp 24), none⟩ (.alt ⟨none, .store 1 (.tmp 25) (.tmp 23), none⟩ .done .stop))) .stop) .stop))))))))))))))))))
@[reducible] def rv56 : List RV := []
theorem low56 : lowC Try.prog tau Try.f56.ntmps (Try.f56.body.getD .skip) = some (erase ic56) := by kernel_rfl
theorem res56 : lowR Try.prog Try.f56.results.toList = some rv56 := by kernel_rfl
theorem bod56 : Try.f56.body = some (Try.f56.body.getD .skip) := by kernel_rfl
theorem cal56 : callable Try.prog 56 = true := by kernel_rfl

end Go.Proofs.YtiakjdcognckpaaE

/-! The code of a function, in the engine's words. -/
namespace Go.Proofs.YtiakjdcognckpaaE
open Go Go.RowKit
@[reducible] def ic69 : IC := (.seq (.ops [⟨some 4, .box (.tmp 0), none⟩, ⟨some 8, .new [(.int .i64 0), (.int .i64 0), (.int .i64 0), (.int .i64 0), (.slice none 0 0)], none⟩]) (.seq (.ops [⟨some 9, .fadr 4 (.tmp 4), none⟩, ⟨some 10, .load 1 false (.tmp 9), none⟩, ⟨some 11, .mov (.tmp 1), none⟩, ⟨some 12, .bin .sub (.const (.int .i64 1)) (.tmp 11), none⟩, ⟨some 13, .mov (.tmp 2), none⟩, ⟨some 14, .mov (.tmp 3), none⟩, ⟨some 15, .bld [(.int .i64 0), (.int .i64 0), (.int .i64 0)] [(0, 1, (.tmp 12)), (1, 1, (.tmp 13)), (2, 1, (.tmp 14))], none⟩, ⟨some 16, .blds .sig 1 [(0, 3, (.tmp 15))], none⟩, ⟨some 17, .app .sig 24 (.tmp 10) (.tmp 16), none⟩, ⟨some 18, .fadr 4 (.tmp 4), none⟩, ⟨none, .store 1 (.tmp 18) (.tmp 17), none⟩]) (.seq (.ops [⟨some 19, .load 5 true (.tmp 4), none⟩, ⟨none, .store 5 (.tmp 8) (.tmp 19), none⟩]) .ret)))
@[reducible] def rv69 : List RV := [.cell 8 5 true]
theorem low69 : lowC Try.prog tau Try.f69.ntmps (Try.f69.body.getD .skip) = some (erase ic69) := by kernel_rfl
theorem res69 : lowR Try.prog Try.f69.results.toList = some rv69 := by kernel_rfl
theorem bod69 : Try.f69.body = some (Try.f69.body.getD .skip) := by kernel_rfl
theorem cal69 : callable Try.prog 69 = true := by kernel_rfl

end Go.Proofs.YtiakjdcognckpaaE

/-! A signal is taken off the way, or put on it. -/
namespace Go.Proofs.YtiakjdcognckpaaE
open Go Go.RowKit
set_option linter.unusedSimpArgs false
set_option linter.unusedVariables false
set_option maxRecDepth 20000

def delAt {α : Type} (xs : List α) (i : Nat) : List α := xs.take i ++ xs.drop (i + 1)
theorem delAt_len {α : Type} (xs : List α) (i : Nat) (h : i < xs.length) : (delAt xs i).length + 1 = xs.length := by
  unfold delAt; rw [List.length_append, List.length_take, List.length_drop]; omega
def spDelete : Spec := ⟨fun _ => take1, fun args objs K => match args, objs with
  | [.sub 0 3 0 n, .v (.int .i64 i), .v (.int .i64 j)], [.row .sig xs] => (n = xs.length ∧ xs.length ≤ 1099511627776 ∧ 0 ≤ i ∧ j = i + 1 ∧ j ≤ (xs.length : Int)) ∧ K (.sub 1 3 0 (delAt xs i.toNat).length) [(1, .row .sig (delAt xs i.toNat))] 2
  | _, _ => False, false⟩
theorem spDelete_t {L : Hp} {a : List AVal} : Spec.take spDelete L a = take1 a := id rfl
theorem spDelete_k : Spec.keep spDelete = false := id rfl
theorem spDelete_f {n} {i} {j} {xs} {K : AVal → Hp → Nat → Prop} : Spec.f spDelete ([.sub 0 3 0 n, .v (.int .i64 i), .v (.int .i64 j)]) ([.row .sig xs]) K = ((n = xs.length ∧ xs.length ≤ 1099511627776 ∧ 0 ≤ i ∧ j = i + 1 ∧ j ≤ (xs.length : Int)) ∧ K (.sub 1 3 0 (delAt xs i.toNat).length) [(1, .row .sig (delAt xs i.toNat))] 2) := id rfl
theorem valid57 : Valid Try.prog 57 spDelete := by
  refine validI (Γ := lk []) Try.func57 bod57 low57 res57 (good_of trivial) ?_
  intro E args objs K h hE hG hP
  simp only [spDelete] at h
  split at h
  · refine ⟨by simp [Try.ntmps57], ?_⟩
    rename_i n i j xs
    obtain ⟨⟨rfl, b1, b2, rfl, b3⟩, h⟩ := h
    obtain ⟨k, rfl⟩ : ∃ k : Nat, i = k := ⟨i.toNat, by omega⟩
    rw [Int.toNat_natCast] at h
    have hne : ((k : Int) = (k : Int) + 1) = False := by apply eq_false; omega
    have t1 : ((k : Int) - 0).toNat = k := by omega
    have t2 : ((k : Int) + 1).toNat = k + 1 := by omega
    have t3 : ((xs.length : Int) - ((k : Int) + 1)).toNat = xs.length - (k + 1) := by omega
    have t4 : (xs.drop (k + 1)).take (xs.length - (k + 1)) = xs.drop (k + 1) := List.take_of_length_le (by rw [List.length_drop]; omega)
    have t5 : (xs.drop (k + 1)).length = xs.length - (k + 1) := List.length_drop
    have t6 : k + (xs.length - (k + 1)) = (delAt xs k).length := by have := delAt_len xs k (by omega); omega
    have t7 : ((xs.length : Int) - ((delAt xs k).length : Int)).toNat = 1 := by have := delAt_len xs k (by omega); omega
    have t8 : (xs.take k ++ xs.drop (k + 1) ++ xs.drop (delAt xs k).length).length = (delAt xs k).length + 1 := by
      rw [List.length_append, show xs.take k ++ xs.drop (k + 1) = delAt xs k from rfl, List.length_drop]; have := delAt_len xs k (by omega); omega
    have t9 : clrL (xs.take k ++ xs.drop (k + 1) ++ xs.drop (delAt xs k).length) (⟨0, 0, 0⟩ : Sig) (delAt xs k).length 1 = delAt xs k := by
      unfold clrL
      rw [if_pos t8.symm, show xs.take k ++ xs.drop (k + 1) = delAt xs k from rfl, List.take_left' rfl]
    have t10 := delAt_len xs k (by omega)
    simp (config := { maxSteps := 2000000 }) only [go_sem, hG, hP, Nat.reduceEqDiff, ↓reduceIte, reduceCtorEq, Nat.reduceAdd, Nat.reduceSub, Nat.reduceMul, Nat.reduceLT, Nat.reduceLeDiff, Int.reduceAdd, Int.reduceSub, Int.reduceMul, Int.reduceLT, Int.reduceLE, Int.reduceEq, Int.reduceNeg, Int.reduceNe, Int.reduceGE, Int.reduceGT, Nat.reduceBEq, Int.reduceToNat,  hne, t1, t2, t3, t4, t5, t6, t7, t8, t9]
    repeat (refine And.intro (by first | omega | (simp; done) | (simp; omega) | (unfold appRoom; omega)) ?_)
    refine .inl ?_
    repeat (refine And.intro (by first | omega | (simp; done) | (simp; omega) | (unfold appRoom; omega)) ?_)
    refine ⟨_, _, _, ?_, h⟩
    simp (config := { maxSteps := 2000000 }) only [go_sem, hG, hP, Nat.reduceEqDiff, ↓reduceIte, reduceCtorEq, Nat.reduceAdd, Nat.reduceSub, Nat.reduceMul, Nat.reduceLT, Nat.reduceLeDiff, Int.reduceAdd, Int.reduceSub, Int.reduceMul, Int.reduceLT, Int.reduceLE, Int.reduceEq, Int.reduceNeg, Int.reduceNe, Int.reduceGE, Int.reduceGT, Nat.reduceBEq, Int.reduceToNat]
    all_goals simp
  · exact h.elim
/-- The box of a Duo, and the row in it. -/
def takeBoxH (L : Hp) : List AVal → List Nat
  | .ptr m _ :: _ => match lk L m with
    | some (.box [_, _, _, _, .sub r _ _ _]) => [m, r]
    | _ => []
  | _ => []
def boxTk (m : Nat) : Option AObj → List Nat
  | some (.box [_, _, _, _, .sub r _ _ _]) => [m, r]
  | _ => []
theorem takeBoxH_eq {L : Hp} {m o : Nat} {r : List AVal} : takeBoxH L (.ptr m o :: r) = boxTk m (lk L m) := by
  simp only [takeBoxH]; unfold boxTk; rfl
theorem boxTk_eq {m k z l n : Nat} {a b c d : AVal} : boxTk m (some (.box [a, b, c, d, .sub k z l n])) = [m, k] := id rfl
def callOf (x y by_ : Int) : Int := if by_ = 0 then x else y
theorem callOf_0 {x y : Int} : callOf x y 0 = x := id rfl
theorem callOf_1 {x y : Int} : callOf x y 1 = y := id rfl
def spSend : Spec := ⟨takeBoxH, fun args objs K => match args, objs with
  | [.ptr 0 0, .v (.int .i64 s), .v (.int .i64 k)], [.box [.v (.int .i64 a), .v (.int .i64 x), .v (.int .i64 b), .v (.int .i64 y), .sub 1 3 0 n], .row .sig q] =>
      (n = q.length ∧ q.length ≤ 1099511627776 ∧ (s = 0 ∨ s = 1)) ∧
      K (.tup []) [(0, .box [.v (.int .i64 a), .v (.int .i64 x), .v (.int .i64 b), .v (.int .i64 y), .sub 2 3 0 (q.length + 1)]), (2, .row .sig (q ++ [⟨1 - s, k, callOf x y s⟩]))] 3
  | _, _ => False, false⟩
theorem spSend_t {L : Hp} {a : List AVal} : Spec.take spSend L a = takeBoxH L a := id rfl
theorem spSend_k : Spec.keep spSend = false := id rfl
theorem spSend_f {s} {k} {a} {x} {b} {y} {n} {q} {K : AVal → Hp → Nat → Prop} : Spec.f spSend ([.ptr 0 0, .v (.int .i64 s), .v (.int .i64 k)]) ([.box [.v (.int .i64 a), .v (.int .i64 x), .v (.int .i64 b), .v (.int .i64 y), .sub 1 3 0 n], .row .sig q]) K = ((n = q.length ∧ q.length ≤ 1099511627776 ∧ (s = 0 ∨ s = 1)) ∧
      K (.tup []) [(0, .box [.v (.int .i64 a), .v (.int .i64 x), .v (.int .i64 b), .v (.int .i64 y), .sub 2 3 0 (q.length + 1)]), (2, .row .sig (q ++ [⟨1 - s, k, callOf x y s⟩]))] 3) := id rfl
theorem valid56 : Valid Try.prog 56 spSend := by
  refine validI (Γ := lk []) Try.func56 bod56 low56 res56 (good_of trivial) ?_
  intro E args objs K h hE hG hP
  simp only [spSend] at h
  split at h
  · refine ⟨by simp [Try.ntmps56], ?_⟩
    rename_i s k a x b y n q
    obtain ⟨⟨rfl, b1, hs⟩, h⟩ := h
    rcases hs with rfl | rfl
    · simp (config := { maxSteps := 2000000 }) only [go_sem, hG, hP, Nat.reduceEqDiff, ↓reduceIte, reduceCtorEq, Nat.reduceAdd, Nat.reduceSub, Nat.reduceMul, Nat.reduceLT, Nat.reduceLeDiff, Int.reduceAdd, Int.reduceSub, Int.reduceMul, Int.reduceLT, Int.reduceLE, Int.reduceEq, Int.reduceNeg, Int.reduceNe, Int.reduceGE, Int.reduceGT, Nat.reduceBEq, Int.reduceToNat]
      (try simp (disch := omega) only [wrap_id])
      repeat (refine And.intro (by first | omega | (simp; done) | (simp; omega) | (unfold appRoom; omega)) ?_)
      simp only [callOf_0] at h
      refine ⟨_, _, _, ?_, h⟩
      simp (config := { maxSteps := 2000000 }) only [go_sem, hG, hP, Nat.reduceEqDiff, ↓reduceIte, reduceCtorEq, Nat.reduceAdd, Nat.reduceSub, Nat.reduceMul, Nat.reduceLT, Nat.reduceLeDiff, Int.reduceAdd, Int.reduceSub, Int.reduceMul, Int.reduceLT, Int.reduceLE, Int.reduceEq, Int.reduceNeg, Int.reduceNe, Int.reduceGE, Int.reduceGT, Nat.reduceBEq, Int.reduceToNat]
      all_goals simp
    · simp (config := { maxSteps := 2000000 }) only [go_sem, hG, hP, Nat.reduceEqDiff, ↓reduceIte, reduceCtorEq, Nat.reduceAdd, Nat.reduceSub, Nat.reduceMul, Nat.reduceLT, Nat.reduceLeDiff, Int.reduceAdd, Int.reduceSub, Int.reduceMul, Int.reduceLT, Int.reduceLE, Int.reduceEq, Int.reduceNeg, Int.reduceNe, Int.reduceGE, Int.reduceGT, Nat.reduceBEq, Int.reduceToNat]
      (try simp (disch := omega) only [wrap_id])
      repeat (refine And.intro (by first | omega | (simp; done) | (simp; omega) | (unfold appRoom; omega)) ?_)
      simp only [callOf_1] at h
      refine ⟨_, _, _, ?_, h⟩
      simp (config := { maxSteps := 2000000 }) only [go_sem, hG, hP, Nat.reduceEqDiff, ↓reduceIte, reduceCtorEq, Nat.reduceAdd, Nat.reduceSub, Nat.reduceMul, Nat.reduceLT, Nat.reduceLeDiff, Int.reduceAdd, Int.reduceSub, Int.reduceMul, Int.reduceLT, Int.reduceLE, Int.reduceEq, Int.reduceNeg, Int.reduceNe, Int.reduceGE, Int.reduceGT, Nat.reduceBEq, Int.reduceToNat]
      all_goals simp
  · exact h.elim
def spPutS : Spec := ⟨fun _ => takeA5, fun args objs K => match args, objs with
  | [.agg [.v (.int .i64 a), .v (.int .i64 x), .v (.int .i64 b), .v (.int .i64 y), .sub 0 3 0 n], .v (.int .i64 s), .v (.int .i64 k), .v (.int .i64 c)], [.row .sig q] =>
      (n = q.length ∧ q.length ≤ 1099511627776 ∧ (s = 0 ∨ s = 1)) ∧
      K (.agg [.v (.int .i64 a), .v (.int .i64 x), .v (.int .i64 b), .v (.int .i64 y), .sub 1 3 0 (q.length + 1)]) [(1, .row .sig (q ++ [⟨1 - s, k, c⟩]))] 2
  | _, _ => False, false⟩
theorem spPutS_t {L : Hp} {a : List AVal} : Spec.take spPutS L a = takeA5 a := id rfl
theorem spPutS_k : Spec.keep spPutS = false := id rfl
theorem spPutS_f {a} {x} {b} {y} {n} {s} {k} {c} {q} {K : AVal → Hp → Nat → Prop} : Spec.f spPutS ([.agg [.v (.int .i64 a), .v (.int .i64 x), .v (.int .i64 b), .v (.int .i64 y), .sub 0 3 0 n], .v (.int .i64 s), .v (.int .i64 k), .v (.int .i64 c)]) ([.row .sig q]) K = ((n = q.length ∧ q.length ≤ 1099511627776 ∧ (s = 0 ∨ s = 1)) ∧
      K (.agg [.v (.int .i64 a), .v (.int .i64 x), .v (.int .i64 b), .v (.int .i64 y), .sub 1 3 0 (q.length + 1)]) [(1, .row .sig (q ++ [⟨1 - s, k, c⟩]))] 2) := id rfl
theorem valid69 : Valid Try.prog 69 spPutS := by
  refine validI (Γ := lk []) Try.func69 bod69 low69 res69 (good_of trivial) ?_
  intro E args objs K h hE hG hP
  simp only [spPutS] at h
  split at h
  · refine ⟨by simp [Try.ntmps69], ?_⟩
    rename_i a x b y n s k c q
    obtain ⟨⟨rfl, b1, hs⟩, h⟩ := h
    rcases hs with rfl | rfl
    · simp (config := { maxSteps := 2000000 }) only [go_sem, hG, hP, Nat.reduceEqDiff, ↓reduceIte, reduceCtorEq, Nat.reduceAdd, Nat.reduceSub, Nat.reduceMul, Nat.reduceLT, Nat.reduceLeDiff, Int.reduceAdd, Int.reduceSub, Int.reduceMul, Int.reduceLT, Int.reduceLE, Int.reduceEq, Int.reduceNeg, Int.reduceNe, Int.reduceGE, Int.reduceGT, Nat.reduceBEq, Int.reduceToNat]
      (try simp (disch := omega) only [wrap_id])
      repeat (refine And.intro (by first | omega | (simp; done) | (simp; omega) | (unfold appRoom; omega)) ?_)
      refine ⟨_, _, _, ?_, h⟩
      simp (config := { maxSteps := 2000000 }) only [go_sem, hG, hP, Nat.reduceEqDiff, ↓reduceIte, reduceCtorEq, Nat.reduceAdd, Nat.reduceSub, Nat.reduceMul, Nat.reduceLT, Nat.reduceLeDiff, Int.reduceAdd, Int.reduceSub, Int.reduceMul, Int.reduceLT, Int.reduceLE, Int.reduceEq, Int.reduceNeg, Int.reduceNe, Int.reduceGE, Int.reduceGT, Nat.reduceBEq, Int.reduceToNat]
      all_goals simp
    · simp (config := { maxSteps := 2000000 }) only [go_sem, hG, hP, Nat.reduceEqDiff, ↓reduceIte, reduceCtorEq, Nat.reduceAdd, Nat.reduceSub, Nat.reduceMul, Nat.reduceLT, Nat.reduceLeDiff, Int.reduceAdd, Int.reduceSub, Int.reduceMul, Int.reduceLT, Int.reduceLE, Int.reduceEq, Int.reduceNeg, Int.reduceNe, Int.reduceGE, Int.reduceGT, Nat.reduceBEq, Int.reduceToNat]
      (try simp (disch := omega) only [wrap_id])
      repeat (refine And.intro (by first | omega | (simp; done) | (simp; omega) | (unfold appRoom; omega)) ?_)
      refine ⟨_, _, _, ?_, h⟩
      simp (config := { maxSteps := 2000000 }) only [go_sem, hG, hP, Nat.reduceEqDiff, ↓reduceIte, reduceCtorEq, Nat.reduceAdd, Nat.reduceSub, Nat.reduceMul, Nat.reduceLT, Nat.reduceLeDiff, Int.reduceAdd, Int.reduceSub, Int.reduceMul, Int.reduceLT, Int.reduceLE, Int.reduceEq, Int.reduceNeg, Int.reduceNe, Int.reduceGE, Int.reduceGT, Nat.reduceBEq, Int.reduceToNat]
      all_goals simp
  · exact h.elim
end Go.Proofs.YtiakjdcognckpaaE

/-! The code of a function, in the engine's words. -/
namespace Go.Proofs.YtiakjdcognckpaaE
open Go Go.RowKit
@[reducible] def ic45 : IC := (.seq (.ops [⟨some 2, .box (.tmp 0), none⟩, ⟨some 4, .new [(.int .i64 0), (.int .i64 0), (.int .i64 0), (.int .i64 0), (.slice none 0 0)], none⟩]) (.seq (.ops [⟨some 6, .mov (.tmp 1), none⟩, ⟨some 7, .fadr 0 (.tmp 2), none⟩, ⟨some 8, .iarr 2 2 (.tmp 7) (.tmp 6), none⟩, ⟨some 9, .load 2 true (.tmp 8), none⟩, ⟨some 5, .new [(.int .i64 0), (.int .i64 0)], none⟩, ⟨none, .store 2 (.tmp 5) (.tmp 9), none⟩]) (.seq (.seq (.ops [⟨some 10, .fadr 0 (.tmp 5), none⟩, ⟨some 11, .load 1 false (.tmp 10), none⟩]) (.block 0 (.seq (.ops [⟨some 13, .bin .eql (.tmp 11) (.const (.int .i64 1)), none⟩, ⟨some 12, .mov (.tmp 13), none⟩]) (.cond (.tmp 12) (.seq (.ops [⟨some 14, .load 5 true (.tmp 2), none⟩, ⟨some 15, .mov (.tmp 1), none⟩, ⟨some 16, .fadr 1 (.tmp 5), none⟩, ⟨some 17, .load 1 false (.tmp 16), none⟩, ⟨some 18, .call 69 [(.tmp 14), (.tmp 15), (.const (.int .i64 1)), (.tmp 17)], none⟩, ⟨none, .store 5 (.tmp 4) (.tmp 18), none⟩]) .ret) (.seq (.ops [⟨some 20, .bin .eql (.tmp 11) (.const (.int .i64 4)), none⟩, ⟨some 19, .mov (.tmp 20), none⟩]) (.cond (.tmp 19) (.seq (.ops [⟨some 21, .load 5 true (.tmp 2), none⟩, ⟨some 22, .mov (.tmp 1), none⟩, ⟨some 23, .fadr 1 (.tmp 5), none⟩, ⟨some 24, .load 1 false (.tmp 23), none⟩, ⟨some 25, .call 69 [(.tmp 21), (.tmp 22), (.const (.int .i64 3)), (.tmp 24)], none⟩, ⟨none, .store 5 (.tmp 4) (.tmp 25), none⟩]) .ret) .skip)))))) (.seq (.ops [⟨some 26, .load 5 true (.tmp 2), none⟩, ⟨none, .store 5 (.tmp 4) (.tmp 26), none⟩]) .ret))))
@[reducible] def rv45 : List RV := [.cell 4 5 true]
theorem low45 : lowC Try.prog tau Try.f45.ntmps (Try.f45.body.getD .skip) = some (erase ic45) := by kernel_rfl
theorem res45 : lowR Try.prog Try.f45.results.toList = some rv45 := by kernel_rfl
theorem bod45 : Try.f45.body = some (Try.f45.body.getD .skip) := by kernel_rfl
theorem cal45 : callable Try.prog 45 = true := by kernel_rfl

end Go.Proofs.YtiakjdcognckpaaE

/-! The code of a function, in the engine's words. -/
namespace Go.Proofs.YtiakjdcognckpaaE
open Go Go.RowKit
@[reducible] def ic75 : IC := (.seq (.ops [⟨some 2, .box (.tmp 0), none⟩, ⟨some 4, .new [(.int .i64 0), (.int .i64 0), (.int .i64 0), (.int .i64 0), (.slice none 0 0)], none⟩, ⟨some 5, .mov (.const (.bool false)), none⟩]) (.seq (.ops [⟨some 7, .mov (.tmp 1), none⟩, ⟨some 8, .fadr 0 (.tmp 2), none⟩, ⟨some 9, .iarr 2 2 (.tmp 8) (.tmp 7), none⟩, ⟨some 10, .load 2 true (.tmp 9), none⟩, ⟨some 6, .new [(.int .i64 0), (.int .i64 0)], none⟩, ⟨none, .store 2 (.tmp 6) (.tmp 10), none⟩]) (.seq (.seq (.ops [⟨some 11, .fadr 0 (.tmp 6), none⟩, ⟨some 12, .load 1 false (.tmp 11), none⟩, ⟨some 13, .bin .eql (.tmp 12) (.const (.int .i64 0)), none⟩, ⟨some 14, .mov (.tmp 13), none⟩, ⟨some 15, .fadr 0 (.tmp 6), some (14, false)⟩, ⟨some 16, .load 1 false (.tmp 15), some (14, false)⟩, ⟨some 17, .bin .eql (.tmp 16) (.const (.int .i64 4)), some (14, false)⟩, ⟨some 18, .pick (.tmp 14) (.const (.bool true)) (.tmp 17), none⟩]) (.cond (.tmp 18) (.seq (.ops [⟨some 19, .load 5 true (.tmp 2), none⟩, ⟨none, .store 5 (.tmp 4) (.tmp 19), none⟩, ⟨some 5, .mov (.const (.bool false)), none⟩]) .ret) .skip)) (.seq (.ops [⟨some 20, .mov (.tmp 1), none⟩, ⟨some 21, .fadr 0 (.tmp 2), none⟩, ⟨some 22, .iarr 2 2 (.tmp 21) (.tmp 20), none⟩, ⟨some 23, .fadr 0 (.tmp 22), none⟩, ⟨none, .store 1 (.tmp 23) (.const (.int .i64 4)), none⟩]) (.seq (.ops [⟨some 24, .load 5 true (.tmp 2), none⟩, ⟨some 25, .mov (.tmp 1), none⟩, ⟨some 26, .fadr 1 (.tmp 6), none⟩, ⟨some 27, .load 1 false (.tmp 26), none⟩, ⟨some 28, .call 69 [(.tmp 24), (.tmp 25), (.const (.int .i64 3)), (.tmp 27)], none⟩, ⟨none, .store 5 (.tmp 4) (.tmp 28), none⟩, ⟨some 5, .mov (.const (.bool true)), none⟩]) .ret)))))
@[reducible] def rv75 : List RV := [.cell 4 5 true, .tmp 5]
theorem low75 : lowC Try.prog tau Try.f75.ntmps (Try.f75.body.getD .skip) = some (erase ic75) := by kernel_rfl
theorem res75 : lowR Try.prog Try.f75.results.toList = some rv75 := by kernel_rfl
theorem bod75 : Try.f75.body = some (Try.f75.body.getD .skip) := by kernel_rfl
theorem cal75 : callable Try.prog 75 = true := by kernel_rfl

end Go.Proofs.YtiakjdcognckpaaE

/-! The code of a function, in the engine's words. -/
namespace Go.Proofs.YtiakjdcognckpaaE
open Go Go.RowKit
@[reducible] def ic81 : IC := (.seq (.ops [⟨some 2, .box (.tmp 0), none⟩, ⟨some 3, .box (.tmp 1), none⟩, ⟨some 4, .new [(.int .i64 0), (.int .i64 0), (.int .i64 0), (.int .i64 0), (.slice none 0 0)], none⟩]) (.seq (.ops [⟨some 6, .fadr 0 (.tmp 2), none⟩, ⟨some 7, .iarr 2 2 (.tmp 6) (.const (.int .i64 1)), none⟩, ⟨some 8, .load 2 true (.tmp 7), none⟩, ⟨some 5, .new [(.int .i64 0), (.int .i64 0)], none⟩, ⟨none, .store 2 (.tmp 5) (.tmp 8), none⟩]) (.seq (.seq (.ops [⟨some 9, .fadr 0 (.tmp 3), none⟩, ⟨some 10, .load 1 false (.tmp 9), none⟩, ⟨some 11, .bin .eql (.tmp 10) (.const (.int .i64 0)), none⟩]) (.cond (.tmp 11) (.seq (.ops [⟨some 12, .load 5 true (.tmp 2), none⟩, ⟨none, .store 5 (.tmp 4) (.tmp 12), none⟩]) .ret) .skip)) (.seq (.seq (.ops [⟨some 13, .fadr 2 (.tmp 3), none⟩, ⟨some 14, .load 1 false (.tmp 13), none⟩, ⟨some 15, .fadr 1 (.tmp 5), none⟩, ⟨some 16, .load 1 false (.tmp 15), none⟩, ⟨some 17, .bin .gtr (.tmp 14) (.tmp 16), none⟩]) (.cond (.tmp 17) (.seq (.ops [⟨some 18, .fadr 2 (.tmp 3), none⟩, ⟨some 19, .load 1 false (.tmp 18), none⟩, ⟨some 20, .bld [(.int .i64 0), (.int .i64 0)] [(0, 1, (.const (.int .i64 2))), (1, 1, (.tmp 19))], none⟩, ⟨some 21, .fadr 0 (.tmp 2), none⟩, ⟨some 22, .iarr 2 2 (.tmp 21) (.const (.int .i64 1)), none⟩, ⟨none, .store 2 (.tmp 22) (.tmp 20), none⟩]) (.seq (.ops [⟨some 23, .load 5 true (.tmp 2), none⟩, ⟨none, .store 5 (.tmp 4) (.tmp 23), none⟩]) .ret)) .skip)) (.seq (.seq (.ops [⟨some 24, .fadr 2 (.tmp 3), none⟩, ⟨some 25, .load 1 false (.tmp 24), none⟩, ⟨some 26, .fadr 1 (.tmp 5), none⟩, ⟨some 27, .load 1 false (.tmp 26), none⟩, ⟨some 28, .bin .lss (.tmp 25) (.tmp 27), none⟩]) (.cond (.tmp 28) (.seq (.ops [⟨some 29, .load 5 true (.tmp 2), none⟩, ⟨none, .store 5 (.tmp 4) (.tmp 29), none⟩]) .ret) .skip)) (.seq (.seq (.ops [⟨some 30, .fadr 0 (.tmp 5), none⟩, ⟨some 31, .load 1 false (.tmp 30), none⟩]) (.block 0 (.seq (.ops [⟨some 33, .bin .eql (.tmp 31) (.const (.int .i64 3)), none⟩, ⟨some 32, .mov (.tmp 33), none⟩]) (.cond (.tmp 32) (.seq (.ops [⟨some 34, .load 5 true (.tmp 2), none⟩, ⟨some 35, .fadr 1 (.tmp 5), none⟩, ⟨some 36, .load 1 false (.tmp 35), none⟩, ⟨some 37, .call 69 [(.tmp 34), (.const (.int .i64 1)), (.const (.int .i64 2)), (.tmp 36)], none⟩, ⟨none, .store 5 (.tmp 4) (.tmp 37), none⟩]) .ret) (.seq (.ops [⟨some 39, .bin .eql (.tmp 31) (.const (.int .i64 4)), none⟩, ⟨some 38, .mov (.tmp 39), none⟩]) (.cond (.tmp 38) (.seq (.ops [⟨some 40, .load 5 true (.tmp 2), none⟩, ⟨some 41, .fadr 1 (.tmp 5), none⟩, ⟨some 42, .load 1 false (.tmp 41), none⟩, ⟨some 43, .call 69 [(.tmp 40), (.const (.int .i64 1)), (.const (.int .i64 3)), (.tmp 42)], none⟩, ⟨none, .store 5 (.tmp 4) (.tmp 43), none⟩]) .ret) .skip)))))) (.seq (.ops [⟨some 44, .load 5 true (.tmp 2), none⟩, ⟨none, .store 5 (.tmp 4) (.tmp 44), none⟩]) .ret)))))))
@[reducible] def rv81 : List RV := [.cell 4 5 true]
theorem low81 : lowC Try.prog tau Try.f81.ntmps (Try.f81.body.getD .skip) = some (erase ic81) := by kernel_rfl
theorem res81 : lowR Try.prog Try.f81.results.toList = some rv81 := by kernel_rfl
theorem bod81 : Try.f81.body = some (Try.f81.body.getD .skip) := by kernel_rfl
theorem cal81 : callable Try.prog 81 = true := by kernel_rfl

end Go.Proofs.YtiakjdcognckpaaE

/-! The code of a function, in the engine's words. -/
namespace Go.Proofs.YtiakjdcognckpaaE
open Go Go.RowKit
@[reducible] def ic80 : IC := (.seq (.ops [⟨some 2, .box (.tmp 0), none⟩, ⟨some 3, .box (.tmp 1), none⟩, ⟨some 4, .new [(.int .i64 0), (.int .i64 0), (.int .i64 0), (.int .i64 0), (.slice none 0 0)], none⟩]) (.seq (.ops [⟨some 6, .fadr 0 (.tmp 3), none⟩, ⟨some 7, .load 1 false (.tmp 6), none⟩, ⟨some 8, .fadr 0 (.tmp 2), none⟩, ⟨some 9, .iarr 2 2 (.tmp 8) (.tmp 7), none⟩, ⟨some 10, .load 2 true (.tmp 9), none⟩, ⟨some 5, .new [(.int .i64 0), (.int .i64 0)], none⟩, ⟨none, .store 2 (.tmp 5) (.tmp 10), none⟩]) (.seq (.seq (.ops [⟨some 11, .fadr 1 (.tmp 3), none⟩, ⟨some 12, .load 1 false (.tmp 11), none⟩]) (.block 0 (.seq (.ops [⟨some 14, .bin .eql (.tmp 12) (.const (.int .i64 1)), none⟩, ⟨some 13, .mov (.tmp 14), none⟩]) (.cond (.tmp 13) (.seq (.ops [⟨some 15, .load 5 true (.tmp 2), none⟩, ⟨some 16, .load 3 true (.tmp 3), none⟩, ⟨some 17, .call 81 [(.tmp 15), (.tmp 16)], none⟩, ⟨none, .store 5 (.tmp 4) (.tmp 17), none⟩]) .ret) (.seq (.ops [⟨some 19, .bin .eql (.tmp 12) (.const (.int .i64 2)), none⟩, ⟨some 18, .mov (.tmp 19), none⟩]) (.cond (.tmp 18) (.seq (.ops [⟨some 20, .fadr 0 (.tmp 3), none⟩, ⟨some 21, .load 1 false (.tmp 20), none⟩, ⟨some 22, .bin .eql (.tmp 21) (.const (.int .i64 0)), none⟩, ⟨some 23, .mov (.tmp 22), none⟩, ⟨some 24, .fadr 2 (.tmp 3), some (23, true)⟩, ⟨some 25, .load 1 false (.tmp 24), some (23, true)⟩, ⟨some 26, .fadr 1 (.tmp 5), some (23, true)⟩, ⟨some 27, .load 1 false (.tmp 26), some (23, true)⟩, ⟨some 28, .bin .eql (.tmp 25) (.tmp 27), some (23, true)⟩, ⟨some 29, .pick (.tmp 23) (.tmp 28) (.const (.bool false)), none⟩, ⟨some 30, .mov (.tmp 29), none⟩, ⟨some 31, .fadr 0 (.tmp 5), some (30, true)⟩, ⟨some 32, .load 1 false (.tmp 31), some (30, true)⟩, ⟨some 33, .bin .eql (.tmp 32) (.const (.int .i64 1)), some (30, true)⟩, ⟨some 34, .pick (.tmp 30) (.tmp 33) (.const (.bool false)), none⟩]) (.cond (.tmp 34) (.ops [⟨some 35, .fadr 0 (.tmp 2), none⟩, ⟨some 36, .iarr 2 2 (.tmp 35) (.const (.int .i64 0)), none⟩, ⟨some 37, .fadr 0 (.tmp 36), none⟩, ⟨none, .store 1 (.tmp 37) (.const (.int .i64 3)), none⟩]) .skip)) (.seq (.ops [⟨some 39, .bin .eql (.tmp 12) (.const (.int .i64 3)), none⟩, ⟨some 38, .mov (.tmp 39), none⟩]) (.cond (.tmp 38) (.seq (.ops [⟨some 40, .load 5 true (.tmp 2), none⟩, ⟨some 41, .fadr 0 (.tmp 3), none⟩, ⟨some 42, .load 1 false (.tmp 41), none⟩, ⟨some 43, .fadr 2 (.tmp 3), none⟩, ⟨some 44, .load 1 false (.tmp 43), none⟩, ⟨some 45, .call 69 [(.tmp 40), (.tmp 42), (.const (.int .i64 4)), (.tmp 44)], none⟩, ⟨none, .store 5 (.tmp 2) (.tmp 45), none⟩]) (.seq (.ops [⟨some 46, .fadr 2 (.tmp 3), none⟩, ⟨some 47, .load 1 false (.tmp 46), none⟩, ⟨some 48, .fadr 1 (.tmp 5), none⟩, ⟨some 49, .load 1 false (.tmp 48), none⟩, ⟨some 50, .bin .geq (.tmp 47) (.tmp 49), none⟩]) (.cond (.tmp 50) (.ops [⟨some 51, .fadr 0 (.tmp 3), none⟩, ⟨some 52, .load 1 false (.tmp 51), none⟩, ⟨some 53, .fadr 2 (.tmp 3), none⟩, ⟨some 54, .load 1 false (.tmp 53), none⟩, ⟨some 55, .bld [(.int .i64 0), (.int .i64 0)] [(1, 1, (.tmp 54))], none⟩, ⟨some 56, .fadr 0 (.tmp 2), none⟩, ⟨some 57, .iarr 2 2 (.tmp 56) (.tmp 52), none⟩, ⟨none, .store 2 (.tmp 57) (.tmp 55), none⟩]) .skip))) (.seq (.ops [⟨some 59, .bin .eql (.tmp 12) (.const (.int .i64 4)), none⟩, ⟨some 58, .mov (.tmp 59), none⟩]) (.cond (.tmp 58) (.seq (.ops [⟨some 60, .fadr 2 (.tmp 3), none⟩, ⟨some 61, .load 1 false (.tmp 60), none⟩, ⟨some 62, .fadr 1 (.tmp 5), none⟩, ⟨some 63, .load 1 false (.tmp 62), none⟩, ⟨some 64, .bin .eql (.tmp 61) (.tmp 63), none⟩, ⟨some 65, .mov (.tmp 64), none⟩, ⟨some 66, .fadr 0 (.tmp 5), some (65, true)⟩, ⟨some 67, .load 1 false (.tmp 66), some (65, true)⟩, ⟨some 68, .bin .eql (.tmp 67) (.const (.int .i64 4)), some (65, true)⟩, ⟨some 69, .pick (.tmp 65) (.tmp 68) (.const (.bool false)), none⟩]) (.cond (.tmp 69) (.ops [⟨some 70, .fadr 0 (.tmp 3), none⟩, ⟨some 71, .load 1 false (.tmp 70), none⟩, ⟨some 72, .fadr 0 (.tmp 2), none⟩, ⟨some 73, .iarr 2 2 (.tmp 72) (.tmp 71), none⟩, ⟨some 74, .fadr 0 (.tmp 73), none⟩, ⟨none, .store 1 (.tmp 74) (.const (.int .i64 0)), none⟩]) .skip)) .skip)))))))))) (.seq (.ops [⟨some 75, .load 5 true (.tmp 2), none⟩, ⟨none, .store 5 (.tmp 4) (.tmp 75), none⟩]) .ret))))
@[reducible] def rv80 : List RV := [.cell 4 5 true]
theorem low80 : lowC Try.prog tau Try.f80.ntmps (Try.f80.body.getD .skip) = some (erase ic80) := by kernel_rfl
theorem res80 : lowR Try.prog Try.f80.results.toList = some rv80 := by kernel_rfl
theorem bod80 : Try.f80.body = some (Try.f80.body.getD .skip) := by kernel_rfl
theorem cal80 : callable Try.prog 80 = true := by kernel_rfl

end Go.Proofs.YtiakjdcognckpaaE

/-! The code of a function, in the engine's words. -/
namespace Go.Proofs.YtiakjdcognckpaaE
open Go Go.RowKit
@[reducible] def ic58 : IC := (.seq (.ops [⟨some 3, .box (.tmp 1), none⟩]) (.seq (.draw [⟨some 5, .mov (.tmp 0), none⟩, ⟨some 6, .fadr 0 (.tmp 3), none⟩, ⟨some 7, .load 1 false (.tmp 6), none⟩, ⟨some 8, .nilc (.tmp 5), none⟩, ⟨some 9, .fadr 0 (.tmp 8), none⟩, ⟨some 10, .iarr 2 2 (.tmp 9) (.tmp 7), none⟩, ⟨some 4, .mov (.tmp 10), none⟩] (.held ⟨some 5, .mov (.tmp 0), none⟩ (.held ⟨some 6, .fadr 0 (.tmp 3), none⟩ (.held ⟨some 7, .load 1 false (.tmp 6), none⟩ (.held ⟨some 8, .nilc (.tmp 5), none⟩ (.held ⟨some 9, .fadr 0 (.tmp 8), none⟩ (.held ⟨some 10, .iarr 2 2 (.tmp 9) (.tmp 7), none⟩ (.held ⟨some 4, .mov (.tmp 10), none⟩ .done)))))))) (.block 0 (.seq (.ops [⟨some 12, .fadr 1 (.tmp 3), none⟩, ⟨some 13, .load 1 false (.tmp 12), none⟩, ⟨some 14, .bin .eql (.tmp 13) (.const (.int .i64 1)), none⟩, ⟨some 15, .mov (.tmp 14), none⟩, ⟨some 16, .fadr 0 (.tmp 3), some (15, true)⟩, ⟨some 17, .load 1 false (.tmp 16), some (15, true)⟩, ⟨some 18, .bin .eql (.tmp 17) (.const (.int .i64 1)), some (15, true)⟩, ⟨some 19, .pick (.tmp 15) (.tmp 18) (.const (.bool false)), none⟩, ⟨some 11, .mov (.tmp 19), none⟩]) (.cond (.tmp 11) (.block 1 (.seq (.draw [⟨some 21, .fadr 2 (.tmp 3), none⟩, ⟨some 22, .load 1 false (.tmp 21), none⟩, ⟨some 23, .mov (.tmp 4), none⟩, ⟨some 24, .nilc (.tmp 23), none⟩, ⟨some 25, .fadr 1 (.tmp 24), none⟩, ⟨some 26, .load 1 false (.tmp 25), none⟩, ⟨some 27, .bin .gtr (.tmp 22) (.tmp 26), none⟩, ⟨some 20, .mov (.tmp 27), none⟩] (.held ⟨some 21, .fadr 2 (.tmp 3), none⟩ (.held ⟨some 22, .load 1 false (.tmp 21), none⟩ (.held ⟨some 23, .mov (.tmp 4), none⟩ (.held ⟨some 24, .nilc (.tmp 23), none⟩ (.held ⟨some 25, .fadr 1 (.tmp 24), none⟩ (.held ⟨some 26, .load 1 false (.tmp 25), none⟩ (.held ⟨some 27, .bin .gtr (.tmp 22) (.tmp 26), none⟩ (.held ⟨some 20, .mov (.tmp 27), none⟩ .done))))))))) (.cond (.tmp 20) (.ops [⟨some 28, .mov (.tmp 4), none⟩, ⟨some 29, .mov (.tmp 4), none⟩, ⟨some 30, .fadr 2 (.tmp 3), none⟩, ⟨some 31, .load 1 false (.tmp 30), none⟩, ⟨some 32, .nilc (.tmp 28), none⟩, ⟨some 33, .fadr 1 (.tmp 32), none⟩, ⟨none, .store 1 (.tmp 33) (.tmp 31), none⟩, ⟨some 34, .nilc (.tmp 29), none⟩, ⟨some 35, .fadr 0 (.tmp 34), none⟩, ⟨none, .store 1 (.tmp 35) (.const (.int .i64 2)), none⟩]) (.seq (.draw [⟨some 37, .fadr 2 (.tmp 3), none⟩, ⟨some 38, .load 1 false (.tmp 37), none⟩, ⟨some 39, .mov (.tmp 4), none⟩, ⟨some 40, .nilc (.tmp 39), none⟩, ⟨some 41, .fadr 1 (.tmp 40), none⟩, ⟨some 42, .load 1 false (.tmp 41), none⟩, ⟨some 43, .bin .lss (.tmp 38) (.tmp 42), none⟩, ⟨some 36, .mov (.tmp 43), none⟩] (.held ⟨some 37, .fadr 2 (.tmp 3), none⟩ (.held ⟨some 38, .load 1 false (.tmp 37), none⟩ (.held ⟨some 39, .mov (.tmp 4), none⟩ (.held ⟨some 40, .nilc (.tmp 39), none⟩ (.held ⟨some 41, .fadr 1 (.tmp 40), none⟩ (.held ⟨some 42, .load 1 false (.tmp 41), none⟩ (.held ⟨some 43, .bin .lss (.tmp 38) (.tmp 42), none⟩ (.held ⟨some 36, .mov (.tmp 43), none⟩ .done))))))))) (.cond (.tmp 36) .skip (.seq (.ops [⟨some 45, .mov (.tmp 4), none⟩, ⟨some 46, .nilc (.tmp 45), none⟩, ⟨some 47, .fadr 0 (.tmp 46), none⟩, ⟨some 48, .load 1 false (.tmp 47), none⟩, ⟨some 49, .bin .eql (.tmp 48) (.const (.int .i64 3)), none⟩, ⟨some 44, .mov (.tmp 49), none⟩]) (.cond (.tmp 44) (.ops [⟨some 50, .mov (.tmp 0), none⟩, ⟨some 51, .call 56 [(.tmp 50), (.const (.int .i64 1)), (.const (.int .i64 2))], none⟩]) (.seq (.ops [⟨some 53, .mov (.tmp 4), none⟩, ⟨some 54, .nilc (.tmp 53), none⟩, ⟨some 55, .fadr 0 (.tmp 54), none⟩, ⟨some 56, .load 1 false (.tmp 55), none⟩, ⟨some 57, .bin .eql (.tmp 56) (.const (.int .i64 4)), none⟩, ⟨some 52, .mov (.tmp 57), none⟩]) (.cond (.tmp 52) (.ops [⟨some 58, .mov (.tmp 0), none⟩, ⟨some 59, .call 56 [(.tmp 58), (.const (.int .i64 1)), (.const (.int .i64 3))], none⟩]) .skip))))))))) (.seq (.ops [⟨some 61, .fadr 1 (.tmp 3), none⟩, ⟨some 62, .load 1 false (.tmp 61), none⟩, ⟨some 63, .bin .eql (.tmp 62) (.const (.int .i64 2)), none⟩, ⟨some 64, .mov (.tmp 63), none⟩, ⟨some 65, .fadr 0 (.tmp 3), some (64, true)⟩, ⟨some 66, .load 1 false (.tmp 65), some (64, true)⟩, ⟨some 67, .bin .eql (.tmp 66) (.const (.int .i64 0)), some (64, true)⟩, ⟨some 68, .pick (.tmp 64) (.tmp 67) (.const (.bool false)), none⟩, ⟨some 60, .mov (.tmp 68), none⟩]) (.cond (.tmp 60) (.seq (.draw [⟨some 69, .fadr 2 (.tmp 3), none⟩, ⟨some 70, .load 1 false (.tmp 69), none⟩, ⟨some 71, .mov (.tmp 4), none⟩, ⟨some 72, .nilc (.tmp 71), none⟩, ⟨some 73, .fadr 1 (.tmp 72), none⟩, ⟨some 74, .load 1 false (.tmp 73), none⟩, ⟨some 75, .bin .eql (.tmp 70) (.tmp 74), none⟩, ⟨some 76, .mov (.tmp 75), none⟩, ⟨some 77, .mov (.tmp 4), some (76, true)⟩, ⟨some 78, .nilc (.tmp 77), some (76, true)⟩, ⟨some 79, .fadr 0 (.tmp 78), some (76, true)⟩, ⟨some 80, .load 1 false (.tmp 79), some (76, true)⟩, ⟨some 81, .bin .eql (.tmp 80) (.const (.int .i64 1)), some (76, true)⟩, ⟨some 82, .pick (.tmp 76) (.tmp 81) (.const (.bool false)), none⟩] (.held ⟨some 69, .fadr 2 (.tmp 3), none⟩ (.held ⟨some 70, .load 1 false (.tmp 69), none⟩ (.held ⟨some 71, .mov (.tmp 4), none⟩ (.held ⟨some 72, .nilc (.tmp 71), none⟩ (.held ⟨some 73, .fadr 1 (.tmp 72), none⟩ (.held ⟨some 74, .load 1 false (.tmp 73), none⟩ (.held ⟨some 75, .bin .eql (.tmp 70) (.tmp 74), none⟩ (.held ⟨some 76, .mov (.tmp 75), none⟩ (.held ⟨some 77, .mov (.tmp 4), some (76, true)⟩ (.held ⟨some 78, .nilc (.tmp 77), some (76, true)⟩ (.held ⟨some 79, .fadr 0 (.tmp 78), some (76, true)⟩ (.held ⟨some 80, .load 1 false (.tmp 79), some (76, true)⟩ (.held ⟨some 81, .bin .eql (.tmp 80) (.const (.int .i64 1)), some (76, true)⟩ (.held ⟨some 82, .pick (.tmp 76) (.tmp 81) (.const (.bool false)), none⟩ .done))))))))))))))) (.cond (.tmp 82) (.ops [⟨some 83, .mov (.tmp 4), none⟩, ⟨some 84, .nilc (.tmp 83), none⟩, ⟨some 85, .fadr 0 (.tmp 84), none⟩, ⟨none, .store 1 (.tmp 85) (.const (.int .i64 3)), none⟩]) .skip)) (.seq (.ops [⟨some 87, .fadr 1 (.tmp 3), none⟩, ⟨some 88, .load 1 false (.tmp 87), none⟩, ⟨some 89, .bin .eql (.tmp 88) (.const (.int .i64 3)), none⟩, ⟨some 86, .mov (.tmp 89), none⟩]) (.cond (.tmp 86) (.seq (.seq (.draw [⟨some 90, .fadr 2 (.tmp 3), none⟩, ⟨some 91, .load 1 false (.tmp 90), none⟩, ⟨some 92, .mov (.tmp 4), none⟩, ⟨some 93, .nilc (.tmp 92), none⟩, ⟨some 94, .fadr 1 (.tmp 93), none⟩, ⟨some 95, .load 1 false (.tmp 94), none⟩, ⟨some 96, .bin .geq (.tmp 91) (.tmp 95), none⟩] (.held ⟨some 90, .fadr 2 (.tmp 3), none⟩ (.held ⟨some 91, .load 1 false (.tmp 90), none⟩ (.held ⟨some 92, .mov (.tmp 4), none⟩ (.held ⟨some 93, .nilc (.tmp 92), none⟩ (.held ⟨some 94, .fadr 1 (.tmp 93), none⟩ (.held ⟨some 95, .load 1 false (.tmp 94), none⟩ (.held ⟨some 96, .bin .geq (.tmp 91) (.tmp 95), none⟩ .done)))))))) (.cond (.tmp 96) (.ops [⟨some 97, .mov (.tmp 4), none⟩, ⟨some 98, .mov (.tmp 4), none⟩, ⟨some 99, .fadr 2 (.tmp 3), none⟩, ⟨some 100, .load 1 false (.tmp 99), none⟩, ⟨some 101, .nilc (.tmp 97), none⟩, ⟨some 102, .fadr 1 (.tmp 101), none⟩, ⟨none, .store 1 (.tmp 102) (.tmp 100), none⟩, ⟨some 103, .nilc (.tmp 98), none⟩, ⟨some 104, .fadr 0 (.tmp 103), none⟩, ⟨none, .store 1 (.tmp 104) (.const (.int .i64 0)), none⟩]) .skip)) (.draw [⟨some 105, .mov (.tmp 0), none⟩, ⟨some 106, .mov (.tmp 0), none⟩, ⟨some 107, .nilc (.tmp 106), none⟩, ⟨some 108, .fadr 4 (.tmp 107), none⟩, ⟨some 109, .load 1 false (.tmp 108), none⟩, ⟨some 110, .fadr 0 (.tmp 3), none⟩, ⟨some 111, .load 1 false (.tmp 110), none⟩, ⟨some 112, .bin .sub (.const (.int .i64 1)) (.tmp 111), none⟩, ⟨some 113, .fadr 2 (.tmp 3), none⟩, ⟨some 114, .load 1 false (.tmp 113), none⟩, ⟨some 115, .bld [(.int .i64 0), (.int .i64 0), (.int .i64 0)] [(0, 1, (.tmp 112)), (1, 1, (.const (.int .i64 4))), (2, 1, (.tmp 114))], none⟩, ⟨some 116, .blds .sig 1 [(0, 3, (.tmp 115))], none⟩, ⟨some 117, .app .sig 24 (.tmp 109) (.tmp 116), none⟩, ⟨some 118, .nilc (.tmp 105), none⟩, ⟨some 119, .fadr 4 (.tmp 118), none⟩, ⟨none, .store 1 (.tmp 119) (.tmp 117), none⟩] (.held ⟨some 105, .mov (.tmp 0), none⟩ (.held ⟨some 106, .mov (.tmp 0), none⟩ (.held ⟨some 107, .nilc (.tmp 106), none⟩ (.held ⟨some 108, .fadr 4 (.tmp 107), none⟩ (.held ⟨some 109, .load 1 false (.tmp 108), none⟩ (.held ⟨some 110, .fadr 0 (.tmp 3), none⟩ (.held ⟨some 111, .load 1 false (.tmp 110), none⟩ (.held ⟨some 112, .bin .sub (.const (.int .i64 1)) (.tmp 111), none⟩ (.held ⟨some 113, .fadr 2 (.tmp 3), none⟩ (.held ⟨some 114, .load 1 false (.tmp 113), none⟩ (.held ⟨some 115, .bld [(.int .i64 0), (.int .i64 0), (.int .i64 0)] [(0, 1, (.tmp 112)), (1, 1, (.const (.int .i64 4))), (2, 1, (.tmp 114))], none⟩ (.alt ⟨some 116, .blds .sig 1 [(0, 3, (.tmp 115))], none⟩ (.alt ⟨some 117, .app .sig 24 (.tmp 109) (.tmp 116), none⟩ (.held ⟨some 118, .nilc (.tmp 105), none⟩ (.held ⟨some 119, .fadr 4 (.tmp 118), none⟩ (.alt ⟨none, .store 1 (.tmp 119) (.tmp 117), none⟩ .done .stop))) .stop) .stop)))))))))))))) (.seq (.ops [⟨some 121, .fadr 1 (.tmp 3), none⟩, ⟨some 122, .load 1 false (.tmp 121), none⟩, ⟨some 123, .bin .eql (.tmp 122) (.const (.int .i64 4)), none⟩, ⟨some 120, .mov (.tmp 123), none⟩]) (.cond (.tmp 120) (.seq (.draw [⟨some 124, .fadr 2 (.tmp 3), none⟩, ⟨some 125, .load 1 false (.tmp 124), none⟩, ⟨some 126, .mov (.tmp 4), none⟩, ⟨some 127, .nilc (.tmp 126), none⟩, ⟨some 128, .fadr 1 (.tmp 127), none⟩, ⟨some 129, .load 1 false (.tmp 128), none⟩, ⟨some 130, .bin .eql (.tmp 125) (.tmp 129), none⟩, ⟨some 131, .mov (.tmp 130), none⟩, ⟨some 132, .mov (.tmp 4), some (131, true)⟩, ⟨some 133, .nilc (.tmp 132), some (131, true)⟩, ⟨some 134, .fadr 0 (.tmp 133), some (131, true)⟩, ⟨some 135, .load 1 false (.tmp 134), some (131, true)⟩, ⟨some 136, .bin .eql (.tmp 135) (.const (.int .i64 4)), some (131, true)⟩, ⟨some 137, .pick (.tmp 131) (.tmp 136) (.const (.bool false)), none⟩] (.held ⟨some 124, .fadr 2 (.tmp 3), none⟩ (.held ⟨some 125, .load 1 false (.tmp 124), none⟩ (.held ⟨some 126, .mov (.tmp 4), none⟩ (.held ⟨some 127, .nilc (.tmp 126), none⟩ (.held ⟨some 128, .fadr 1 (.tmp 127), none⟩ (.held ⟨some 129, .load 1 false (.tmp 128), none⟩ (.held ⟨some 130, .bin .eql (.tmp 125) (.tmp 129), none⟩ (.held ⟨some 131, .mov (.tmp 130), none⟩ (.held ⟨some 132, .mov (.tmp 4), some (131, true)⟩ (.held ⟨some 133, .nilc (.tmp 132), some (131, true)⟩ (.held ⟨some 134, .fadr 0 (.tmp 133), some (131, true)⟩ (.held ⟨some 135, .load 1 false (.tmp 134), some (131, true)⟩ (.held ⟨some 136, .bin .eql (.tmp 135) (.const (.int .i64 4)), some (131, true)⟩ (.held ⟨some 137, .pick (.tmp 131) (.tmp 136) (.const (.bool false)), none⟩ .done))))))))))))))) (.cond (.tmp 137) (.ops [⟨some 138, .mov (.tmp 4), none⟩, ⟨some 139, .nilc (.tmp 138), none⟩, ⟨some 140, .fadr 0 (.tmp 139), none⟩, ⟨none, .store 1 (.tmp 140) (.const (.int .i64 0)), none⟩]) .skip)) .skip)))))))))))
@[reducible] def rv58 : List RV := []
theorem low58 : lowC Try.prog tau Try.f58.ntmps (Try.f58.body.getD .skip) = some (erase ic58) := by kernel_rfl
theorem res58 : lowR Try.prog Try.f58.results.toList = some rv58 := by kernel_rfl
theorem bod58 : Try.f58.body = some (Try.f58.body.getD .skip) := by kernel_rfl
theorem cal58 : callable Try.prog 58 = true := by kernel_rfl

end Go.Proofs.YtiakjdcognckpaaE

/-! A signal arrives; a timer runs out. -/
namespace Go.Proofs.YtiakjdcognckpaaE
open Go Go.RowKit
set_option linter.unusedSimpArgs false
set_option linter.unusedVariables false
set_option maxRecDepth 20000

def arr (d : Du) (s : Sig) : Du :=
  if s.kind = 1 then
    if s.to = 0 then d else if d.y < s.call then ⟨d.a, d.x, 2, s.call, d.q⟩ else if s.call < d.y then d else if d.b = 3 then ⟨d.a, d.x, d.b, d.y, d.q ++ [⟨0, 2, d.y⟩]⟩ else if d.b = 4 then ⟨d.a, d.x, d.b, d.y, d.q ++ [⟨0, 3, d.y⟩]⟩ else d
  else if s.kind = 2 then
    if s.to = 0 ∧ s.call = d.x ∧ d.a = 1 then ⟨3, d.x, d.b, d.y, d.q⟩ else d
  else if s.kind = 3 then
    if s.to = 0 then if d.x ≤ s.call then ⟨0, s.call, d.b, d.y, d.q ++ [⟨1, 4, s.call⟩]⟩ else ⟨d.a, d.x, d.b, d.y, d.q ++ [⟨1, 4, s.call⟩]⟩
    else if d.y ≤ s.call then ⟨d.a, d.x, 0, s.call, d.q ++ [⟨0, 4, s.call⟩]⟩ else ⟨d.a, d.x, d.b, d.y, d.q ++ [⟨0, 4, s.call⟩]⟩
  else if s.to = 0 then if s.call = d.x ∧ d.a = 4 then ⟨0, d.x, d.b, d.y, d.q⟩ else d
  else if s.call = d.y ∧ d.b = 4 then ⟨d.a, d.x, 0, d.y, d.q⟩ else d
def arrG (d : Du) (s : Sig) : Bool :=
  if s.kind = 1 then (if s.to = 0 then false else if d.y < s.call then false else if s.call < d.y then false else if d.b = 3 then true else if d.b = 4 then true else false)
  else if s.kind = 2 then false else if s.kind = 3 then true else false
def timer (d : Du) (p : Int) : Du :=
  if p = 0 then if d.a = 1 then ⟨d.a, d.x, d.b, d.y, d.q ++ [⟨1, 1, d.x⟩]⟩ else if d.a = 4 then ⟨d.a, d.x, d.b, d.y, d.q ++ [⟨1, 3, d.x⟩]⟩ else d
  else if d.b = 1 then ⟨d.a, d.x, d.b, d.y, d.q ++ [⟨0, 1, d.y⟩]⟩ else if d.b = 4 then ⟨d.a, d.x, d.b, d.y, d.q ++ [⟨0, 3, d.y⟩]⟩ else d
def timerG (d : Du) (p : Int) : Bool := if p = 0 then decide (d.a = 1 ∨ d.a = 4) else decide (d.b = 1 ∨ d.b = 4)
def clearOk (d : Du) (p : Int) : Bool := if p = 0 then decide (¬ d.a = 0 ∧ ¬ d.a = 4) else decide (¬ d.b = 0 ∧ ¬ d.b = 4)
def cleared (d : Du) (p : Int) : Du := if p = 0 then ⟨4, d.x, d.b, d.y, d.q ++ [⟨1, 3, d.x⟩]⟩ else ⟨d.a, d.x, 4, d.y, d.q ++ [⟨0, 3, d.y⟩]⟩
/-- Nothing new on the way, or one more signal. -/
def stayK (g : Bool) (a x b y : Int) (q : List Sig) (d : Du) (K : AVal → Hp → Nat → Prop) : Prop :=
  impK (g = false) (K (.agg [.v (.int .i64 d.a), .v (.int .i64 d.x), .v (.int .i64 d.b), .v (.int .i64 d.y), .sub 0 3 0 q.length]) [(0, .row .sig q)] 1) ∧
  impK (g = true) (K (.agg [.v (.int .i64 d.a), .v (.int .i64 d.x), .v (.int .i64 d.b), .v (.int .i64 d.y), .sub 1 3 0 d.q.length]) [(1, .row .sig d.q)] 2)
theorem stayK_eq {g : Bool} {a x b y : Int} {q : List Sig} {d : Du} {K : AVal → Hp → Nat → Prop} : stayK g a x b y q d K = (impK (g = false) (K (.agg [.v (.int .i64 d.a), .v (.int .i64 d.x), .v (.int .i64 d.b), .v (.int .i64 d.y), .sub 0 3 0 q.length]) [(0, .row .sig q)] 1) ∧
  impK (g = true) (K (.agg [.v (.int .i64 d.a), .v (.int .i64 d.x), .v (.int .i64 d.b), .v (.int .i64 d.y), .sub 1 3 0 d.q.length]) [(1, .row .sig d.q)] 2)) := id rfl
def spTimer : Spec := ⟨fun _ => takeA5, fun args objs K => match args, objs with
  | [.agg [.v (.int .i64 a), .v (.int .i64 x), .v (.int .i64 b), .v (.int .i64 y), .sub 0 3 0 n], .v (.int .i64 p)], [.row .sig q] =>
      (n = q.length ∧ q.length ≤ 1099511627776 ∧ (p = 0 ∨ p = 1)) ∧ stayK (timerG ⟨a, x, b, y, q⟩ p) a x b y q (timer ⟨a, x, b, y, q⟩ p) K
  | _, _ => False, false⟩
theorem spTimer_t {L : Hp} {a : List AVal} : Spec.take spTimer L a = takeA5 a := id rfl
theorem spTimer_k : Spec.keep spTimer = false := id rfl
theorem spTimer_f {a} {x} {b} {y} {n} {p} {q} {K : AVal → Hp → Nat → Prop} : Spec.f spTimer ([.agg [.v (.int .i64 a), .v (.int .i64 x), .v (.int .i64 b), .v (.int .i64 y), .sub 0 3 0 n], .v (.int .i64 p)]) ([.row .sig q]) K = ((n = q.length ∧ q.length ≤ 1099511627776 ∧ (p = 0 ∨ p = 1)) ∧ stayK (timerG ⟨a, x, b, y, q⟩ p) a x b y q (timer ⟨a, x, b, y, q⟩ p) K) := id rfl
theorem valid45 : Valid Try.prog 45 spTimer := by
  refine validI (Γ := lk [(69, spPutS)]) Try.func45 bod45 low45 res45 (good_of ⟨⟨cal69, valid69⟩, trivial⟩) ?_
  intro E args objs K h hE hG hP
  simp only [spTimer] at h
  split at h
  · refine ⟨by simp [Try.ntmps45], ?_⟩
    rename_i a x b y n p q
    obtain ⟨⟨rfl, b1, hs⟩, h⟩ := h
    rcases hs with rfl | rfl
    · simp (config := { maxSteps := 2000000 }) only [go_sem, hG, hP, Nat.reduceEqDiff, ↓reduceIte, reduceCtorEq, Nat.reduceAdd, Nat.reduceSub, Nat.reduceMul, Nat.reduceLT, Nat.reduceLeDiff, Int.reduceAdd, Int.reduceSub, Int.reduceMul, Int.reduceLT, Int.reduceLE, Int.reduceEq, Int.reduceNeg, Int.reduceNe, Int.reduceGE, Int.reduceGT, Nat.reduceBEq, Int.reduceToNat,  spPutS_f, spPutS_t, spPutS_k, takeA5_eq]
      repeat' (first | (refine And.intro ?_ ?_) | (with_reducible intro _))
      all_goals first | omega | (unfold appRoom; omega) | (simp [impK_t, impK_f, stayK_eq, timerG, timer, *] at h; refine ⟨_, _, _, ?_, h⟩; simp (config := { maxSteps := 2000000 }) only [go_sem, hG, hP, Nat.reduceEqDiff, ↓reduceIte, reduceCtorEq, Nat.reduceAdd, Nat.reduceSub, Nat.reduceMul, Nat.reduceLT, Nat.reduceLeDiff, Int.reduceAdd, Int.reduceSub, Int.reduceMul, Int.reduceLT, Int.reduceLE, Int.reduceEq, Int.reduceNeg, Int.reduceNe, Int.reduceGE, Int.reduceGT, Nat.reduceBEq, Int.reduceToNat]; all_goals (first | (simp [*]; done) | omega))
    · simp (config := { maxSteps := 2000000 }) only [go_sem, hG, hP, Nat.reduceEqDiff, ↓reduceIte, reduceCtorEq, Nat.reduceAdd, Nat.reduceSub, Nat.reduceMul, Nat.reduceLT, Nat.reduceLeDiff, Int.reduceAdd, Int.reduceSub, Int.reduceMul, Int.reduceLT, Int.reduceLE, Int.reduceEq, Int.reduceNeg, Int.reduceNe, Int.reduceGE, Int.reduceGT, Nat.reduceBEq, Int.reduceToNat,  spPutS_f, spPutS_t, spPutS_k, takeA5_eq]
      repeat' (first | (refine And.intro ?_ ?_) | (with_reducible intro _))
      all_goals first | omega | (unfold appRoom; omega) | (simp [impK_t, impK_f, stayK_eq, timerG, timer, *] at h; refine ⟨_, _, _, ?_, h⟩; simp (config := { maxSteps := 2000000 }) only [go_sem, hG, hP, Nat.reduceEqDiff, ↓reduceIte, reduceCtorEq, Nat.reduceAdd, Nat.reduceSub, Nat.reduceMul, Nat.reduceLT, Nat.reduceLeDiff, Int.reduceAdd, Int.reduceSub, Int.reduceMul, Int.reduceLT, Int.reduceLE, Int.reduceEq, Int.reduceNeg, Int.reduceNe, Int.reduceGE, Int.reduceGT, Nat.reduceBEq, Int.reduceToNat]; all_goals (first | (simp [*]; done) | omega))
  · exact h.elim
def spClear : Spec := ⟨fun _ => takeA5, fun args objs K => match args, objs with
  | [.agg [.v (.int .i64 a), .v (.int .i64 x), .v (.int .i64 b), .v (.int .i64 y), .sub 0 3 0 n], .v (.int .i64 p)], [.row .sig q] =>
      (n = q.length ∧ q.length ≤ 1099511627776 ∧ (p = 0 ∨ p = 1)) ∧ impK (clearOk ⟨a, x, b, y, q⟩ p = false) (K (.tup [.agg [.v (.int .i64 a), .v (.int .i64 x), .v (.int .i64 b), .v (.int .i64 y), .sub 0 3 0 q.length], .v (.bool false)]) [(0, .row .sig q)] 1) ∧
      impK (clearOk ⟨a, x, b, y, q⟩ p = true) (K (.tup [.agg [.v (.int .i64 (cleared ⟨a, x, b, y, q⟩ p).a), .v (.int .i64 (cleared ⟨a, x, b, y, q⟩ p).x), .v (.int .i64 (cleared ⟨a, x, b, y, q⟩ p).b), .v (.int .i64 (cleared ⟨a, x, b, y, q⟩ p).y), .sub 1 3 0 (cleared ⟨a, x, b, y, q⟩ p).q.length], .v (.bool true)]) [(1, .row .sig (cleared ⟨a, x, b, y, q⟩ p).q)] 2)
  | _, _ => False, false⟩
theorem spClear_t {L : Hp} {a : List AVal} : Spec.take spClear L a = takeA5 a := id rfl
theorem spClear_k : Spec.keep spClear = false := id rfl
theorem spClear_f {a} {x} {b} {y} {n} {p} {q} {K : AVal → Hp → Nat → Prop} : Spec.f spClear ([.agg [.v (.int .i64 a), .v (.int .i64 x), .v (.int .i64 b), .v (.int .i64 y), .sub 0 3 0 n], .v (.int .i64 p)]) ([.row .sig q]) K = ((n = q.length ∧ q.length ≤ 1099511627776 ∧ (p = 0 ∨ p = 1)) ∧ impK (clearOk ⟨a, x, b, y, q⟩ p = false) (K (.tup [.agg [.v (.int .i64 a), .v (.int .i64 x), .v (.int .i64 b), .v (.int .i64 y), .sub 0 3 0 q.length], .v (.bool false)]) [(0, .row .sig q)] 1) ∧
      impK (clearOk ⟨a, x, b, y, q⟩ p = true) (K (.tup [.agg [.v (.int .i64 (cleared ⟨a, x, b, y, q⟩ p).a), .v (.int .i64 (cleared ⟨a, x, b, y, q⟩ p).x), .v (.int .i64 (cleared ⟨a, x, b, y, q⟩ p).b), .v (.int .i64 (cleared ⟨a, x, b, y, q⟩ p).y), .sub 1 3 0 (cleared ⟨a, x, b, y, q⟩ p).q.length], .v (.bool true)]) [(1, .row .sig (cleared ⟨a, x, b, y, q⟩ p).q)] 2)) := id rfl
theorem valid75 : Valid Try.prog 75 spClear := by
  refine validI (Γ := lk [(69, spPutS)]) Try.func75 bod75 low75 res75 (good_of ⟨⟨cal69, valid69⟩, trivial⟩) ?_
  intro E args objs K h hE hG hP
  simp only [spClear] at h
  split at h
  · refine ⟨by simp [Try.ntmps75], ?_⟩
    rename_i a x b y n p q
    obtain ⟨⟨rfl, b1, hs⟩, h⟩ := h
    rcases hs with rfl | rfl
    · simp (config := { maxSteps := 2000000 }) only [go_sem, hG, hP, Nat.reduceEqDiff, ↓reduceIte, reduceCtorEq, Nat.reduceAdd, Nat.reduceSub, Nat.reduceMul, Nat.reduceLT, Nat.reduceLeDiff, Int.reduceAdd, Int.reduceSub, Int.reduceMul, Int.reduceLT, Int.reduceLE, Int.reduceEq, Int.reduceNeg, Int.reduceNe, Int.reduceGE, Int.reduceGT, Nat.reduceBEq, Int.reduceToNat,  spPutS_f, spPutS_t, spPutS_k, takeA5_eq]
      repeat' (first | (refine And.intro ?_ ?_) | (with_reducible intro _))
      all_goals first | omega | (unfold appRoom; omega) | (simp [impK_t, impK_f, clearOk, cleared, *] at h; refine ⟨_, _, _, ?_, h⟩; simp (config := { maxSteps := 2000000 }) only [go_sem, hG, hP, Nat.reduceEqDiff, ↓reduceIte, reduceCtorEq, Nat.reduceAdd, Nat.reduceSub, Nat.reduceMul, Nat.reduceLT, Nat.reduceLeDiff, Int.reduceAdd, Int.reduceSub, Int.reduceMul, Int.reduceLT, Int.reduceLE, Int.reduceEq, Int.reduceNeg, Int.reduceNe, Int.reduceGE, Int.reduceGT, Nat.reduceBEq, Int.reduceToNat]; all_goals (first | (simp [*]; done) | omega))
    · simp (config := { maxSteps := 2000000 }) only [go_sem, hG, hP, Nat.reduceEqDiff, ↓reduceIte, reduceCtorEq, Nat.reduceAdd, Nat.reduceSub, Nat.reduceMul, Nat.reduceLT, Nat.reduceLeDiff, Int.reduceAdd, Int.reduceSub, Int.reduceMul, Int.reduceLT, Int.reduceLE, Int.reduceEq, Int.reduceNeg, Int.reduceNe, Int.reduceGE, Int.reduceGT, Nat.reduceBEq, Int.reduceToNat,  spPutS_f, spPutS_t, spPutS_k, takeA5_eq]
      repeat' (first | (refine And.intro ?_ ?_) | (with_reducible intro _))
      all_goals first | omega | (unfold appRoom; omega) | (simp [impK_t, impK_f, clearOk, cleared, *] at h; refine ⟨_, _, _, ?_, h⟩; simp (config := { maxSteps := 2000000 }) only [go_sem, hG, hP, Nat.reduceEqDiff, ↓reduceIte, reduceCtorEq, Nat.reduceAdd, Nat.reduceSub, Nat.reduceMul, Nat.reduceLT, Nat.reduceLeDiff, Int.reduceAdd, Int.reduceSub, Int.reduceMul, Int.reduceLT, Int.reduceLE, Int.reduceEq, Int.reduceNeg, Int.reduceNe, Int.reduceGE, Int.reduceGT, Nat.reduceBEq, Int.reduceToNat]; all_goals (first | (simp [*]; done) | omega))
  · exact h.elim
def spSeized : Spec := ⟨fun _ => takeA5, fun args objs K => match args, objs with
  | [.agg [.v (.int .i64 a), .v (.int .i64 x), .v (.int .i64 b), .v (.int .i64 y), .sub 0 3 0 n], .agg [.v (.int .i64 to), .v (.int .i64 kind), .v (.int .i64 call)]], [.row .sig q] =>
      (n = q.length ∧ q.length ≤ 1099511627776 ∧ kind = 1) ∧ stayK (arrG ⟨a, x, b, y, q⟩ ⟨to, kind, call⟩) a x b y q (arr ⟨a, x, b, y, q⟩ ⟨to, kind, call⟩) K
  | _, _ => False, false⟩
theorem spSeized_t {L : Hp} {a : List AVal} : Spec.take spSeized L a = takeA5 a := id rfl
theorem spSeized_k : Spec.keep spSeized = false := id rfl
theorem spSeized_f {a} {x} {b} {y} {n} {to} {kind} {call} {q} {K : AVal → Hp → Nat → Prop} : Spec.f spSeized ([.agg [.v (.int .i64 a), .v (.int .i64 x), .v (.int .i64 b), .v (.int .i64 y), .sub 0 3 0 n], .agg [.v (.int .i64 to), .v (.int .i64 kind), .v (.int .i64 call)]]) ([.row .sig q]) K = ((n = q.length ∧ q.length ≤ 1099511627776 ∧ kind = 1) ∧ stayK (arrG ⟨a, x, b, y, q⟩ ⟨to, kind, call⟩) a x b y q (arr ⟨a, x, b, y, q⟩ ⟨to, kind, call⟩) K) := id rfl
theorem valid81 : Valid Try.prog 81 spSeized := by
  refine validI (Γ := lk [(69, spPutS)]) Try.func81 bod81 low81 res81 (good_of ⟨⟨cal69, valid69⟩, trivial⟩) ?_
  intro E args objs K h hE hG hP
  simp only [spSeized] at h
  split at h
  · refine ⟨by simp [Try.ntmps81], ?_⟩
    rename_i a x b y n to kind call q
    obtain ⟨⟨rfl, b1, rfl⟩, h⟩ := h
    simp (config := { maxSteps := 2000000 }) only [go_sem, hG, hP, Nat.reduceEqDiff, ↓reduceIte, reduceCtorEq, Nat.reduceAdd, Nat.reduceSub, Nat.reduceMul, Nat.reduceLT, Nat.reduceLeDiff, Int.reduceAdd, Int.reduceSub, Int.reduceMul, Int.reduceLT, Int.reduceLE, Int.reduceEq, Int.reduceNeg, Int.reduceNe, Int.reduceGE, Int.reduceGT, Nat.reduceBEq, Int.reduceToNat,  spPutS_f, spPutS_t, spPutS_k, takeA5_eq]
    repeat' (first | (refine And.intro ?_ ?_) | (with_reducible intro _))
    all_goals first | omega | (unfold appRoom; omega) | (simp [impK_t, impK_f, stayK_eq, arrG, arr, *] at h; refine ⟨_, _, _, ?_, h⟩; simp (config := { maxSteps := 2000000 }) only [go_sem, hG, hP, Nat.reduceEqDiff, ↓reduceIte, reduceCtorEq, Nat.reduceAdd, Nat.reduceSub, Nat.reduceMul, Nat.reduceLT, Nat.reduceLeDiff, Int.reduceAdd, Int.reduceSub, Int.reduceMul, Int.reduceLT, Int.reduceLE, Int.reduceEq, Int.reduceNeg, Int.reduceNe, Int.reduceGE, Int.reduceGT, Nat.reduceBEq, Int.reduceToNat]; all_goals (first | (simp [*]; done) | omega))
  · exact h.elim
def spArr : Spec := ⟨fun _ => takeA5, fun args objs K => match args, objs with
  | [.agg [.v (.int .i64 a), .v (.int .i64 x), .v (.int .i64 b), .v (.int .i64 y), .sub 0 3 0 n], .agg [.v (.int .i64 to), .v (.int .i64 kind), .v (.int .i64 call)]], [.row .sig q] =>
      (n = q.length ∧ q.length ≤ 1099511627776 ∧ (to = 0 ∨ to = 1) ∧ (1 ≤ kind ∧ kind ≤ 4)) ∧ stayK (arrG ⟨a, x, b, y, q⟩ ⟨to, kind, call⟩) a x b y q (arr ⟨a, x, b, y, q⟩ ⟨to, kind, call⟩) K
  | _, _ => False, false⟩
theorem spArr_t {L : Hp} {a : List AVal} : Spec.take spArr L a = takeA5 a := id rfl
theorem spArr_k : Spec.keep spArr = false := id rfl
theorem spArr_f {a} {x} {b} {y} {n} {to} {kind} {call} {q} {K : AVal → Hp → Nat → Prop} : Spec.f spArr ([.agg [.v (.int .i64 a), .v (.int .i64 x), .v (.int .i64 b), .v (.int .i64 y), .sub 0 3 0 n], .agg [.v (.int .i64 to), .v (.int .i64 kind), .v (.int .i64 call)]]) ([.row .sig q]) K = ((n = q.length ∧ q.length ≤ 1099511627776 ∧ (to = 0 ∨ to = 1) ∧ (1 ≤ kind ∧ kind ≤ 4)) ∧ stayK (arrG ⟨a, x, b, y, q⟩ ⟨to, kind, call⟩) a x b y q (arr ⟨a, x, b, y, q⟩ ⟨to, kind, call⟩) K) := id rfl
theorem kind_cases {k : Int} (h : 1 ≤ k ∧ k ≤ 4) : k = 1 ∨ k = 2 ∨ k = 3 ∨ k = 4 := by omega
theorem valid80 : Valid Try.prog 80 spArr := by
  refine validI (Γ := lk [(69, spPutS), (81, spSeized)]) Try.func80 bod80 low80 res80 (good_of ⟨⟨cal69, valid69⟩, ⟨cal81, valid81⟩, trivial⟩) ?_
  intro E args objs K h hE hG hP
  simp only [spArr] at h
  split at h
  · refine ⟨by simp [Try.ntmps80], ?_⟩
    rename_i a x b y n to kind call q
    obtain ⟨⟨rfl, b1, hs, hk⟩, h⟩ := h
    rcases kind_cases hk with rfl | rfl | rfl | rfl
    · rcases hs with rfl | rfl
      · simp (config := { maxSteps := 2000000 }) only [go_sem, hG, hP, Nat.reduceEqDiff, ↓reduceIte, reduceCtorEq, Nat.reduceAdd, Nat.reduceSub, Nat.reduceMul, Nat.reduceLT, Nat.reduceLeDiff, Int.reduceAdd, Int.reduceSub, Int.reduceMul, Int.reduceLT, Int.reduceLE, Int.reduceEq, Int.reduceNeg, Int.reduceNe, Int.reduceGE, Int.reduceGT, Nat.reduceBEq, Int.reduceToNat,  spPutS_f, spPutS_t, spPutS_k, spSeized_f, spSeized_t, spSeized_k, takeA5_eq, ↓stayK_eq]
        repeat' (first | (refine And.intro ?_ ?_) | (with_reducible intro _))
        · omega
        · rename_i c; refine ⟨_, _, _, ?_, h.1 c⟩; simp (config := { maxSteps := 2000000 }) only [go_sem, hG, hP, Nat.reduceEqDiff, ↓reduceIte, reduceCtorEq, Nat.reduceAdd, Nat.reduceSub, Nat.reduceMul, Nat.reduceLT, Nat.reduceLeDiff, Int.reduceAdd, Int.reduceSub, Int.reduceMul, Int.reduceLT, Int.reduceLE, Int.reduceEq, Int.reduceNeg, Int.reduceNe, Int.reduceGE, Int.reduceGT, Nat.reduceBEq, Int.reduceToNat]
        · rename_i c; refine ⟨_, _, _, ?_, h.2 c⟩; simp (config := { maxSteps := 2000000 }) only [go_sem, hG, hP, Nat.reduceEqDiff, ↓reduceIte, reduceCtorEq, Nat.reduceAdd, Nat.reduceSub, Nat.reduceMul, Nat.reduceLT, Nat.reduceLeDiff, Int.reduceAdd, Int.reduceSub, Int.reduceMul, Int.reduceLT, Int.reduceLE, Int.reduceEq, Int.reduceNeg, Int.reduceNe, Int.reduceGE, Int.reduceGT, Nat.reduceBEq, Int.reduceToNat]
      · simp (config := { maxSteps := 2000000 }) only [go_sem, hG, hP, Nat.reduceEqDiff, ↓reduceIte, reduceCtorEq, Nat.reduceAdd, Nat.reduceSub, Nat.reduceMul, Nat.reduceLT, Nat.reduceLeDiff, Int.reduceAdd, Int.reduceSub, Int.reduceMul, Int.reduceLT, Int.reduceLE, Int.reduceEq, Int.reduceNeg, Int.reduceNe, Int.reduceGE, Int.reduceGT, Nat.reduceBEq, Int.reduceToNat,  spPutS_f, spPutS_t, spPutS_k, spSeized_f, spSeized_t, spSeized_k, takeA5_eq, ↓stayK_eq]
        repeat' (first | (refine And.intro ?_ ?_) | (with_reducible intro _))
        · omega
        · rename_i c; refine ⟨_, _, _, ?_, h.1 c⟩; simp (config := { maxSteps := 2000000 }) only [go_sem, hG, hP, Nat.reduceEqDiff, ↓reduceIte, reduceCtorEq, Nat.reduceAdd, Nat.reduceSub, Nat.reduceMul, Nat.reduceLT, Nat.reduceLeDiff, Int.reduceAdd, Int.reduceSub, Int.reduceMul, Int.reduceLT, Int.reduceLE, Int.reduceEq, Int.reduceNeg, Int.reduceNe, Int.reduceGE, Int.reduceGT, Nat.reduceBEq, Int.reduceToNat]
        · rename_i c; refine ⟨_, _, _, ?_, h.2 c⟩; simp (config := { maxSteps := 2000000 }) only [go_sem, hG, hP, Nat.reduceEqDiff, ↓reduceIte, reduceCtorEq, Nat.reduceAdd, Nat.reduceSub, Nat.reduceMul, Nat.reduceLT, Nat.reduceLeDiff, Int.reduceAdd, Int.reduceSub, Int.reduceMul, Int.reduceLT, Int.reduceLE, Int.reduceEq, Int.reduceNeg, Int.reduceNe, Int.reduceGE, Int.reduceGT, Nat.reduceBEq, Int.reduceToNat]
    · rcases hs with rfl | rfl
      · simp (config := { maxSteps := 2000000 }) only [go_sem, hG, hP, Nat.reduceEqDiff, ↓reduceIte, reduceCtorEq, Nat.reduceAdd, Nat.reduceSub, Nat.reduceMul, Nat.reduceLT, Nat.reduceLeDiff, Int.reduceAdd, Int.reduceSub, Int.reduceMul, Int.reduceLT, Int.reduceLE, Int.reduceEq, Int.reduceNeg, Int.reduceNe, Int.reduceGE, Int.reduceGT, Nat.reduceBEq, Int.reduceToNat,  spPutS_f, spPutS_t, spPutS_k, spSeized_f, spSeized_t, spSeized_k, takeA5_eq]
        repeat' (first | (refine And.intro ?_ ?_) | (with_reducible intro _))
        all_goals first | omega | (unfold appRoom; omega) | (simp [impK_t, impK_f, stayK_eq, arrG, arr, *] at h; refine ⟨_, _, _, ?_, h⟩; simp (config := { maxSteps := 2000000 }) only [go_sem, hG, hP, Nat.reduceEqDiff, ↓reduceIte, reduceCtorEq, Nat.reduceAdd, Nat.reduceSub, Nat.reduceMul, Nat.reduceLT, Nat.reduceLeDiff, Int.reduceAdd, Int.reduceSub, Int.reduceMul, Int.reduceLT, Int.reduceLE, Int.reduceEq, Int.reduceNeg, Int.reduceNe, Int.reduceGE, Int.reduceGT, Nat.reduceBEq, Int.reduceToNat]; all_goals (first | (simp [*]; done) | omega))
      · simp (config := { maxSteps := 2000000 }) only [go_sem, hG, hP, Nat.reduceEqDiff, ↓reduceIte, reduceCtorEq, Nat.reduceAdd, Nat.reduceSub, Nat.reduceMul, Nat.reduceLT, Nat.reduceLeDiff, Int.reduceAdd, Int.reduceSub, Int.reduceMul, Int.reduceLT, Int.reduceLE, Int.reduceEq, Int.reduceNeg, Int.reduceNe, Int.reduceGE, Int.reduceGT, Nat.reduceBEq, Int.reduceToNat,  spPutS_f, spPutS_t, spPutS_k, spSeized_f, spSeized_t, spSeized_k, takeA5_eq]
        repeat' (first | (refine And.intro ?_ ?_) | (with_reducible intro _))
        all_goals first | omega | (unfold appRoom; omega) | (simp [impK_t, impK_f, stayK_eq, arrG, arr, *] at h; refine ⟨_, _, _, ?_, h⟩; simp (config := { maxSteps := 2000000 }) only [go_sem, hG, hP, Nat.reduceEqDiff, ↓reduceIte, reduceCtorEq, Nat.reduceAdd, Nat.reduceSub, Nat.reduceMul, Nat.reduceLT, Nat.reduceLeDiff, Int.reduceAdd, Int.reduceSub, Int.reduceMul, Int.reduceLT, Int.reduceLE, Int.reduceEq, Int.reduceNeg, Int.reduceNe, Int.reduceGE, Int.reduceGT, Nat.reduceBEq, Int.reduceToNat]; all_goals (first | (simp [*]; done) | omega))
    · rcases hs with rfl | rfl
      · simp (config := { maxSteps := 2000000 }) only [go_sem, hG, hP, Nat.reduceEqDiff, ↓reduceIte, reduceCtorEq, Nat.reduceAdd, Nat.reduceSub, Nat.reduceMul, Nat.reduceLT, Nat.reduceLeDiff, Int.reduceAdd, Int.reduceSub, Int.reduceMul, Int.reduceLT, Int.reduceLE, Int.reduceEq, Int.reduceNeg, Int.reduceNe, Int.reduceGE, Int.reduceGT, Nat.reduceBEq, Int.reduceToNat,  spPutS_f, spPutS_t, spPutS_k, spSeized_f, spSeized_t, spSeized_k, takeA5_eq]
        repeat' (first | (refine And.intro ?_ ?_) | (with_reducible intro _))
        all_goals first | omega | (unfold appRoom; omega) | (simp [impK_t, impK_f, stayK_eq, arrG, arr, *] at h; refine ⟨_, _, _, ?_, h⟩; simp (config := { maxSteps := 2000000 }) only [go_sem, hG, hP, Nat.reduceEqDiff, ↓reduceIte, reduceCtorEq, Nat.reduceAdd, Nat.reduceSub, Nat.reduceMul, Nat.reduceLT, Nat.reduceLeDiff, Int.reduceAdd, Int.reduceSub, Int.reduceMul, Int.reduceLT, Int.reduceLE, Int.reduceEq, Int.reduceNeg, Int.reduceNe, Int.reduceGE, Int.reduceGT, Nat.reduceBEq, Int.reduceToNat]; all_goals (first | (simp [*]; done) | omega))
      · simp (config := { maxSteps := 2000000 }) only [go_sem, hG, hP, Nat.reduceEqDiff, ↓reduceIte, reduceCtorEq, Nat.reduceAdd, Nat.reduceSub, Nat.reduceMul, Nat.reduceLT, Nat.reduceLeDiff, Int.reduceAdd, Int.reduceSub, Int.reduceMul, Int.reduceLT, Int.reduceLE, Int.reduceEq, Int.reduceNeg, Int.reduceNe, Int.reduceGE, Int.reduceGT, Nat.reduceBEq, Int.reduceToNat,  spPutS_f, spPutS_t, spPutS_k, spSeized_f, spSeized_t, spSeized_k, takeA5_eq]
        repeat' (first | (refine And.intro ?_ ?_) | (with_reducible intro _))
        all_goals first | omega | (unfold appRoom; omega) | (simp [impK_t, impK_f, stayK_eq, arrG, arr, *] at h; refine ⟨_, _, _, ?_, h⟩; simp (config := { maxSteps := 2000000 }) only [go_sem, hG, hP, Nat.reduceEqDiff, ↓reduceIte, reduceCtorEq, Nat.reduceAdd, Nat.reduceSub, Nat.reduceMul, Nat.reduceLT, Nat.reduceLeDiff, Int.reduceAdd, Int.reduceSub, Int.reduceMul, Int.reduceLT, Int.reduceLE, Int.reduceEq, Int.reduceNeg, Int.reduceNe, Int.reduceGE, Int.reduceGT, Nat.reduceBEq, Int.reduceToNat]; all_goals (first | (simp [*]; done) | omega))
    · rcases hs with rfl | rfl
      · simp (config := { maxSteps := 2000000 }) only [go_sem, hG, hP, Nat.reduceEqDiff, ↓reduceIte, reduceCtorEq, Nat.reduceAdd, Nat.reduceSub, Nat.reduceMul, Nat.reduceLT, Nat.reduceLeDiff, Int.reduceAdd, Int.reduceSub, Int.reduceMul, Int.reduceLT, Int.reduceLE, Int.reduceEq, Int.reduceNeg, Int.reduceNe, Int.reduceGE, Int.reduceGT, Nat.reduceBEq, Int.reduceToNat,  spPutS_f, spPutS_t, spPutS_k, spSeized_f, spSeized_t, spSeized_k, takeA5_eq]
        repeat' (first | (refine And.intro ?_ ?_) | (with_reducible intro _))
        all_goals first | omega | (unfold appRoom; omega) | (simp [impK_t, impK_f, stayK_eq, arrG, arr, *] at h; refine ⟨_, _, _, ?_, h⟩; simp (config := { maxSteps := 2000000 }) only [go_sem, hG, hP, Nat.reduceEqDiff, ↓reduceIte, reduceCtorEq, Nat.reduceAdd, Nat.reduceSub, Nat.reduceMul, Nat.reduceLT, Nat.reduceLeDiff, Int.reduceAdd, Int.reduceSub, Int.reduceMul, Int.reduceLT, Int.reduceLE, Int.reduceEq, Int.reduceNeg, Int.reduceNe, Int.reduceGE, Int.reduceGT, Nat.reduceBEq, Int.reduceToNat]; all_goals (first | (simp [*]; done) | omega))
      · simp (config := { maxSteps := 2000000 }) only [go_sem, hG, hP, Nat.reduceEqDiff, ↓reduceIte, reduceCtorEq, Nat.reduceAdd, Nat.reduceSub, Nat.reduceMul, Nat.reduceLT, Nat.reduceLeDiff, Int.reduceAdd, Int.reduceSub, Int.reduceMul, Int.reduceLT, Int.reduceLE, Int.reduceEq, Int.reduceNeg, Int.reduceNe, Int.reduceGE, Int.reduceGT, Nat.reduceBEq, Int.reduceToNat,  spPutS_f, spPutS_t, spPutS_k, spSeized_f, spSeized_t, spSeized_k, takeA5_eq]
        repeat' (first | (refine And.intro ?_ ?_) | (with_reducible intro _))
        all_goals first | omega | (unfold appRoom; omega) | (simp [impK_t, impK_f, stayK_eq, arrG, arr, *] at h; refine ⟨_, _, _, ?_, h⟩; simp (config := { maxSteps := 2000000 }) only [go_sem, hG, hP, Nat.reduceEqDiff, ↓reduceIte, reduceCtorEq, Nat.reduceAdd, Nat.reduceSub, Nat.reduceMul, Nat.reduceLT, Nat.reduceLeDiff, Int.reduceAdd, Int.reduceSub, Int.reduceMul, Int.reduceLT, Int.reduceLE, Int.reduceEq, Int.reduceNeg, Int.reduceNe, Int.reduceGE, Int.reduceGT, Nat.reduceBEq, Int.reduceToNat]; all_goals (first | (simp [*]; done) | omega))
  · exact h.elim
/-- As stayK, for a Duo that lies in a box. -/
def boxK (g : Bool) (q : List Sig) (d : Du) (K : AVal → Hp → Nat → Prop) : Prop :=
  impK (g = false) (K (.tup []) [(0, .box [.v (.int .i64 d.a), .v (.int .i64 d.x), .v (.int .i64 d.b), .v (.int .i64 d.y), .sub 1 3 0 q.length]), (1, .row .sig q)] 2) ∧
  impK (g = true) (K (.tup []) [(0, .box [.v (.int .i64 d.a), .v (.int .i64 d.x), .v (.int .i64 d.b), .v (.int .i64 d.y), .sub 2 3 0 d.q.length]), (2, .row .sig d.q)] 3)
theorem boxK_eq {g : Bool} {q : List Sig} {d : Du} {K : AVal → Hp → Nat → Prop} : boxK g q d K = (impK (g = false) (K (.tup []) [(0, .box [.v (.int .i64 d.a), .v (.int .i64 d.x), .v (.int .i64 d.b), .v (.int .i64 d.y), .sub 1 3 0 q.length]), (1, .row .sig q)] 2) ∧
  impK (g = true) (K (.tup []) [(0, .box [.v (.int .i64 d.a), .v (.int .i64 d.x), .v (.int .i64 d.b), .v (.int .i64 d.y), .sub 2 3 0 d.q.length]), (2, .row .sig d.q)] 3)) := id rfl
def spArrive : Spec := ⟨takeBoxH, fun args objs K => match args, objs with
  | [.ptr 0 0, .agg [.v (.int .i64 to), .v (.int .i64 kind), .v (.int .i64 call)]], [.box [.v (.int .i64 a), .v (.int .i64 x), .v (.int .i64 b), .v (.int .i64 y), .sub 1 3 0 n], .row .sig q] =>
      (n = q.length ∧ q.length ≤ 1099511627776 ∧ (to = 0 ∨ to = 1) ∧ (1 ≤ kind ∧ kind ≤ 4)) ∧ boxK (arrG ⟨a, x, b, y, q⟩ ⟨to, kind, call⟩) q (arr ⟨a, x, b, y, q⟩ ⟨to, kind, call⟩) K
  | _, _ => False, false⟩
theorem spArrive_t {L : Hp} {a : List AVal} : Spec.take spArrive L a = takeBoxH L a := id rfl
theorem spArrive_k : Spec.keep spArrive = false := id rfl
theorem spArrive_f {to} {kind} {call} {a} {x} {b} {y} {n} {q} {K : AVal → Hp → Nat → Prop} : Spec.f spArrive ([.ptr 0 0, .agg [.v (.int .i64 to), .v (.int .i64 kind), .v (.int .i64 call)]]) ([.box [.v (.int .i64 a), .v (.int .i64 x), .v (.int .i64 b), .v (.int .i64 y), .sub 1 3 0 n], .row .sig q]) K = ((n = q.length ∧ q.length ≤ 1099511627776 ∧ (to = 0 ∨ to = 1) ∧ (1 ≤ kind ∧ kind ≤ 4)) ∧ boxK (arrG ⟨a, x, b, y, q⟩ ⟨to, kind, call⟩) q (arr ⟨a, x, b, y, q⟩ ⟨to, kind, call⟩) K) := id rfl
theorem valid58 : Valid Try.prog 58 spArrive := by
  refine validI (Γ := lk [(56, spSend)]) Try.func58 bod58 low58 res58 (good_of ⟨⟨cal56, valid56⟩, trivial⟩) ?_
  intro E args objs K h hE hG hP
  simp only [spArrive] at h
  split at h
  · refine ⟨by simp [Try.ntmps58], ?_⟩
    rename_i to kind call a x b y n q
    obtain ⟨⟨rfl, b1, hs, hk⟩, h⟩ := h
    rcases kind_cases hk with rfl | rfl | rfl | rfl <;> rcases hs with rfl | rfl
    · simp (config := { maxSteps := 2000000 }) only [go_sem, hG, hP, Nat.reduceEqDiff, ↓reduceIte, reduceCtorEq, Nat.reduceAdd, Nat.reduceSub, Nat.reduceMul, Nat.reduceLT, Nat.reduceLeDiff, Int.reduceAdd, Int.reduceSub, Int.reduceMul, Int.reduceLT, Int.reduceLE, Int.reduceEq, Int.reduceNeg, Int.reduceNe, Int.reduceGE, Int.reduceGT, Nat.reduceBEq, Int.reduceToNat,  spSend_f, spSend_t, spSend_k, takeBoxH_eq, boxTk_eq, callOf_0, callOf_1]
      repeat' (first | (refine And.intro ?_ ?_) | (with_reducible intro _))
      all_goals first | omega | (unfold appRoom; omega) | (simp [impK_t, impK_f, boxK_eq, arrG, arr, *] at h; refine ⟨_, _, _, ?_, h⟩; simp (config := { maxSteps := 2000000 }) only [go_sem, hG, hP, Nat.reduceEqDiff, ↓reduceIte, reduceCtorEq, Nat.reduceAdd, Nat.reduceSub, Nat.reduceMul, Nat.reduceLT, Nat.reduceLeDiff, Int.reduceAdd, Int.reduceSub, Int.reduceMul, Int.reduceLT, Int.reduceLE, Int.reduceEq, Int.reduceNeg, Int.reduceNe, Int.reduceGE, Int.reduceGT, Nat.reduceBEq, Int.reduceToNat]; all_goals (first | (simp [*]; done) | omega))
    · simp (config := { maxSteps := 2000000 }) only [go_sem, hG, hP, Nat.reduceEqDiff, ↓reduceIte, reduceCtorEq, Nat.reduceAdd, Nat.reduceSub, Nat.reduceMul, Nat.reduceLT, Nat.reduceLeDiff, Int.reduceAdd, Int.reduceSub, Int.reduceMul, Int.reduceLT, Int.reduceLE, Int.reduceEq, Int.reduceNeg, Int.reduceNe, Int.reduceGE, Int.reduceGT, Nat.reduceBEq, Int.reduceToNat,  spSend_f, spSend_t, spSend_k, takeBoxH_eq, boxTk_eq, callOf_0, callOf_1]
      repeat' (first | (refine And.intro ?_ ?_) | (with_reducible intro _))
      all_goals first | omega | (unfold appRoom; omega) | (simp [impK_t, impK_f, boxK_eq, arrG, arr, *] at h; refine ⟨_, _, _, ?_, h⟩; simp (config := { maxSteps := 2000000 }) only [go_sem, hG, hP, Nat.reduceEqDiff, ↓reduceIte, reduceCtorEq, Nat.reduceAdd, Nat.reduceSub, Nat.reduceMul, Nat.reduceLT, Nat.reduceLeDiff, Int.reduceAdd, Int.reduceSub, Int.reduceMul, Int.reduceLT, Int.reduceLE, Int.reduceEq, Int.reduceNeg, Int.reduceNe, Int.reduceGE, Int.reduceGT, Nat.reduceBEq, Int.reduceToNat]; all_goals (first | (simp [*]; done) | omega))
    · simp (config := { maxSteps := 2000000 }) only [go_sem, hG, hP, Nat.reduceEqDiff, ↓reduceIte, reduceCtorEq, Nat.reduceAdd, Nat.reduceSub, Nat.reduceMul, Nat.reduceLT, Nat.reduceLeDiff, Int.reduceAdd, Int.reduceSub, Int.reduceMul, Int.reduceLT, Int.reduceLE, Int.reduceEq, Int.reduceNeg, Int.reduceNe, Int.reduceGE, Int.reduceGT, Nat.reduceBEq, Int.reduceToNat,  spSend_f, spSend_t, spSend_k, takeBoxH_eq, boxTk_eq, callOf_0, callOf_1]
      repeat' (first | (refine And.intro ?_ ?_) | (with_reducible intro _))
      all_goals first | omega | (unfold appRoom; omega) | (simp [impK_t, impK_f, boxK_eq, arrG, arr, *] at h; refine ⟨_, _, _, ?_, h⟩; simp (config := { maxSteps := 2000000 }) only [go_sem, hG, hP, Nat.reduceEqDiff, ↓reduceIte, reduceCtorEq, Nat.reduceAdd, Nat.reduceSub, Nat.reduceMul, Nat.reduceLT, Nat.reduceLeDiff, Int.reduceAdd, Int.reduceSub, Int.reduceMul, Int.reduceLT, Int.reduceLE, Int.reduceEq, Int.reduceNeg, Int.reduceNe, Int.reduceGE, Int.reduceGT, Nat.reduceBEq, Int.reduceToNat]; all_goals (first | (simp [*]; done) | omega))
    · simp (config := { maxSteps := 2000000 }) only [go_sem, hG, hP, Nat.reduceEqDiff, ↓reduceIte, reduceCtorEq, Nat.reduceAdd, Nat.reduceSub, Nat.reduceMul, Nat.reduceLT, Nat.reduceLeDiff, Int.reduceAdd, Int.reduceSub, Int.reduceMul, Int.reduceLT, Int.reduceLE, Int.reduceEq, Int.reduceNeg, Int.reduceNe, Int.reduceGE, Int.reduceGT, Nat.reduceBEq, Int.reduceToNat,  spSend_f, spSend_t, spSend_k, takeBoxH_eq, boxTk_eq, callOf_0, callOf_1]
      repeat' (first | (refine And.intro ?_ ?_) | (with_reducible intro _))
      all_goals first | omega | (unfold appRoom; omega) | (simp [impK_t, impK_f, boxK_eq, arrG, arr, *] at h; refine ⟨_, _, _, ?_, h⟩; simp (config := { maxSteps := 2000000 }) only [go_sem, hG, hP, Nat.reduceEqDiff, ↓reduceIte, reduceCtorEq, Nat.reduceAdd, Nat.reduceSub, Nat.reduceMul, Nat.reduceLT, Nat.reduceLeDiff, Int.reduceAdd, Int.reduceSub, Int.reduceMul, Int.reduceLT, Int.reduceLE, Int.reduceEq, Int.reduceNeg, Int.reduceNe, Int.reduceGE, Int.reduceGT, Nat.reduceBEq, Int.reduceToNat]; all_goals (first | (simp [*]; done) | omega))
    · simp (config := { maxSteps := 2000000 }) only [go_sem, hG, hP, Nat.reduceEqDiff, ↓reduceIte, reduceCtorEq, Nat.reduceAdd, Nat.reduceSub, Nat.reduceMul, Nat.reduceLT, Nat.reduceLeDiff, Int.reduceAdd, Int.reduceSub, Int.reduceMul, Int.reduceLT, Int.reduceLE, Int.reduceEq, Int.reduceNeg, Int.reduceNe, Int.reduceGE, Int.reduceGT, Nat.reduceBEq, Int.reduceToNat,  spSend_f, spSend_t, spSend_k, takeBoxH_eq, boxTk_eq, callOf_0, callOf_1]
      repeat' (first | (refine And.intro ?_ ?_) | (with_reducible intro _))
      all_goals first | omega | (unfold appRoom; omega) | (simp [impK_t, impK_f, boxK_eq, arrG, arr, *] at h; refine ⟨_, _, _, ?_, h⟩; simp (config := { maxSteps := 2000000 }) only [go_sem, hG, hP, Nat.reduceEqDiff, ↓reduceIte, reduceCtorEq, Nat.reduceAdd, Nat.reduceSub, Nat.reduceMul, Nat.reduceLT, Nat.reduceLeDiff, Int.reduceAdd, Int.reduceSub, Int.reduceMul, Int.reduceLT, Int.reduceLE, Int.reduceEq, Int.reduceNeg, Int.reduceNe, Int.reduceGE, Int.reduceGT, Nat.reduceBEq, Int.reduceToNat]; all_goals (first | (simp [*]; done) | omega))
    · simp (config := { maxSteps := 2000000 }) only [go_sem, hG, hP, Nat.reduceEqDiff, ↓reduceIte, reduceCtorEq, Nat.reduceAdd, Nat.reduceSub, Nat.reduceMul, Nat.reduceLT, Nat.reduceLeDiff, Int.reduceAdd, Int.reduceSub, Int.reduceMul, Int.reduceLT, Int.reduceLE, Int.reduceEq, Int.reduceNeg, Int.reduceNe, Int.reduceGE, Int.reduceGT, Nat.reduceBEq, Int.reduceToNat,  spSend_f, spSend_t, spSend_k, takeBoxH_eq, boxTk_eq, callOf_0, callOf_1]
      repeat' (first | (refine And.intro ?_ ?_) | (with_reducible intro _))
      all_goals first | omega | (unfold appRoom; omega) | (simp [impK_t, impK_f, boxK_eq, arrG, arr, *] at h; refine ⟨_, _, _, ?_, h⟩; simp (config := { maxSteps := 2000000 }) only [go_sem, hG, hP, Nat.reduceEqDiff, ↓reduceIte, reduceCtorEq, Nat.reduceAdd, Nat.reduceSub, Nat.reduceMul, Nat.reduceLT, Nat.reduceLeDiff, Int.reduceAdd, Int.reduceSub, Int.reduceMul, Int.reduceLT, Int.reduceLE, Int.reduceEq, Int.reduceNeg, Int.reduceNe, Int.reduceGE, Int.reduceGT, Nat.reduceBEq, Int.reduceToNat]; all_goals (first | (simp [*]; done) | omega))
    · simp (config := { maxSteps := 2000000 }) only [go_sem, hG, hP, Nat.reduceEqDiff, ↓reduceIte, reduceCtorEq, Nat.reduceAdd, Nat.reduceSub, Nat.reduceMul, Nat.reduceLT, Nat.reduceLeDiff, Int.reduceAdd, Int.reduceSub, Int.reduceMul, Int.reduceLT, Int.reduceLE, Int.reduceEq, Int.reduceNeg, Int.reduceNe, Int.reduceGE, Int.reduceGT, Nat.reduceBEq, Int.reduceToNat,  spSend_f, spSend_t, spSend_k, takeBoxH_eq, boxTk_eq, callOf_0, callOf_1]
      repeat' (first | (refine And.intro ?_ ?_) | (with_reducible intro _))
      all_goals first | omega | (unfold appRoom; omega) | (simp [impK_t, impK_f, boxK_eq, arrG, arr, *] at h; refine ⟨_, _, _, ?_, h⟩; simp (config := { maxSteps := 2000000 }) only [go_sem, hG, hP, Nat.reduceEqDiff, ↓reduceIte, reduceCtorEq, Nat.reduceAdd, Nat.reduceSub, Nat.reduceMul, Nat.reduceLT, Nat.reduceLeDiff, Int.reduceAdd, Int.reduceSub, Int.reduceMul, Int.reduceLT, Int.reduceLE, Int.reduceEq, Int.reduceNeg, Int.reduceNe, Int.reduceGE, Int.reduceGT, Nat.reduceBEq, Int.reduceToNat]; all_goals (first | (simp [*]; done) | omega))
    · simp (config := { maxSteps := 2000000 }) only [go_sem, hG, hP, Nat.reduceEqDiff, ↓reduceIte, reduceCtorEq, Nat.reduceAdd, Nat.reduceSub, Nat.reduceMul, Nat.reduceLT, Nat.reduceLeDiff, Int.reduceAdd, Int.reduceSub, Int.reduceMul, Int.reduceLT, Int.reduceLE, Int.reduceEq, Int.reduceNeg, Int.reduceNe, Int.reduceGE, Int.reduceGT, Nat.reduceBEq, Int.reduceToNat,  spSend_f, spSend_t, spSend_k, takeBoxH_eq, boxTk_eq, callOf_0, callOf_1]
      repeat' (first | (refine And.intro ?_ ?_) | (with_reducible intro _))
      all_goals first | omega | (unfold appRoom; omega) | (simp [impK_t, impK_f, boxK_eq, arrG, arr, *] at h; refine ⟨_, _, _, ?_, h⟩; simp (config := { maxSteps := 2000000 }) only [go_sem, hG, hP, Nat.reduceEqDiff, ↓reduceIte, reduceCtorEq, Nat.reduceAdd, Nat.reduceSub, Nat.reduceMul, Nat.reduceLT, Nat.reduceLeDiff, Int.reduceAdd, Int.reduceSub, Int.reduceMul, Int.reduceLT, Int.reduceLE, Int.reduceEq, Int.reduceNeg, Int.reduceNe, Int.reduceGE, Int.reduceGT, Nat.reduceBEq, Int.reduceToNat]; all_goals (first | (simp [*]; done) | omega))
  · exact h.elim
end Go.Proofs.YtiakjdcognckpaaE

/-! The code of a function, in the engine's words. -/
namespace Go.Proofs.YtiakjdcognckpaaE
open Go Go.RowKit
@[reducible] def ic68 : IC := (.seq (.ops [⟨some 3, .box (.tmp 0), none⟩, ⟨some 6, .new [(.int .i64 0), (.int .i64 0), (.int .i64 0), (.int .i64 0), (.slice none 0 0)], none⟩]) (.seq (.ops [⟨some 8, .fadr 4 (.tmp 3), none⟩, ⟨some 9, .load 1 false (.tmp 8), none⟩, ⟨some 10, .mov (.tmp 2), none⟩, ⟨some 11, .iadr 3 (.tmp 9) (.tmp 10), none⟩, ⟨some 12, .load 3 true (.tmp 11), none⟩, ⟨some 7, .new [(.int .i64 0), (.int .i64 0), (.int .i64 0)], none⟩, ⟨none, .store 3 (.tmp 7) (.tmp 12), none⟩]) (.seq (.seq (.ops [⟨some 13, .mov (.tmp 1), none⟩, ⟨some 14, .bin .eql (.tmp 13) (.const (.int .i64 7)), none⟩]) (.cond (.tmp 14) (.seq (.ops [⟨some 15, .fadr 4 (.tmp 3), none⟩, ⟨some 16, .load 1 false (.tmp 15), none⟩, ⟨some 17, .load 3 true (.tmp 7), none⟩, ⟨some 18, .blds .sig 1 [(0, 3, (.tmp 17))], none⟩, ⟨some 19, .app .sig 24 (.tmp 16) (.tmp 18), none⟩, ⟨some 20, .fadr 4 (.tmp 3), none⟩, ⟨none, .store 1 (.tmp 20) (.tmp 19), none⟩]) (.seq (.ops [⟨some 21, .load 5 true (.tmp 3), none⟩, ⟨none, .store 5 (.tmp 6) (.tmp 21), none⟩]) .ret)) .skip)) (.seq (.draw [⟨some 22, .fadr 4 (.tmp 3), none⟩, ⟨some 23, .load 1 false (.tmp 22), none⟩, ⟨some 24, .mov (.tmp 2), none⟩, ⟨some 25, .slc 3 (.tmp 23) none (some (.tmp 24)), none⟩, ⟨some 26, .fadr 4 (.tmp 3), none⟩, ⟨some 27, .load 1 false (.tmp 26), none⟩, ⟨some 28, .mov (.tmp 2), none⟩, ⟨some 29, .bin .add (.tmp 28) (.const (.int .i64 1)), none⟩, ⟨some 30, .slc 3 (.tmp 27) (some (.tmp 29)) none, none⟩, ⟨some 31, .app .sig 24 (.tmp 25) (.tmp 30), none⟩, ⟨some 32, .fadr 4 (.tmp 3), none⟩, ⟨none, .store 1 (.tmp 32) (.tmp 31), none⟩] (.held ⟨some 22, .fadr 4 (.tmp 3), none⟩ (.held ⟨some 23, .load 1 false (.tmp 22), none⟩ (.held ⟨some 24, .mov (.tmp 2), none⟩ (.held ⟨some 25, .slc 3 (.tmp 23) none (some (.tmp 24)), none⟩ (.held ⟨some 26, .fadr 4 (.tmp 3), none⟩ (.held ⟨some 27, .load 1 false (.tmp 26), none⟩ (.held ⟨some 28, .mov (.tmp 2), none⟩ (.held ⟨some 29, .bin .add (.tmp 28) (.const (.int .i64 1)), none⟩ (.held ⟨some 30, .slc 3 (.tmp 27) (some (.tmp 29)) none, none⟩ (.alt ⟨some 31, .app .sig 24 (.tmp 25) (.tmp 30), none⟩ (.held ⟨some 32, .fadr 4 (.tmp 3), none⟩ (.alt ⟨none, .store 1 (.tmp 32) (.tmp 31), none⟩ .done .stop)) .stop))))))))))) (.seq (.seq (.ops [⟨some 33, .mov (.tmp 1), none⟩, ⟨some 34, .bin .eql (.tmp 33) (.const (.int .i64 5)), none⟩]) (.cond (.tmp 34) (.seq (.ops [⟨some 35, .load 5 true (.tmp 3), none⟩, ⟨some 36, .load 3 true (.tmp 7), none⟩, ⟨some 37, .call 80 [(.tmp 35), (.tmp 36)], none⟩, ⟨none, .store 5 (.tmp 6) (.tmp 37), none⟩]) .ret) .skip)) (.seq (.ops [⟨some 38, .load 5 true (.tmp 3), none⟩, ⟨none, .store 5 (.tmp 6) (.tmp 38), none⟩]) .ret))))))
@[reducible] def rv68 : List RV := [.cell 6 5 true]
theorem low68 : lowC Try.prog tau Try.f68.ntmps (Try.f68.body.getD .skip) = some (erase ic68) := by kernel_rfl
theorem res68 : lowR Try.prog Try.f68.results.toList = some rv68 := by kernel_rfl
theorem bod68 : Try.f68.body = some (Try.f68.body.getD .skip) := by kernel_rfl
theorem cal68 : callable Try.prog 68 = true := by kernel_rfl

end Go.Proofs.YtiakjdcognckpaaE

/-! The code of a function, in the engine's words. -/
namespace Go.Proofs.YtiakjdcognckpaaE
open Go Go.RowKit
@[reducible] def ic55 : IC := (.seq (.ops [⟨some 2, .box (.tmp 0), none⟩, ⟨some 3, .box (.tmp 1), none⟩, ⟨some 4, .new [(.int .i64 0), (.int .i64 0), (.int .i64 0), (.int .i64 0), (.slice none 0 0)], none⟩, ⟨some 5, .mov (.const (.bool false)), none⟩]) (.seq (.seq (.ops [⟨some 7, .fadr 0 (.tmp 3), none⟩, ⟨some 8, .load 1 false (.tmp 7), none⟩]) (.block 0 (.seq (.ops [⟨some 10, .bin .eql (.tmp 8) (.const (.int .i64 1)), none⟩, ⟨some 9, .mov (.tmp 10), none⟩]) (.cond (.tmp 9) (.seq (.ops [⟨some 11, .fadr 0 (.tmp 2), none⟩, ⟨some 12, .iarr 2 2 (.tmp 11) (.const (.int .i64 0)), none⟩, ⟨some 13, .load 2 true (.tmp 12), none⟩, ⟨some 6, .new [(.int .i64 0), (.int .i64 0)], none⟩, ⟨none, .store 2 (.tmp 6) (.tmp 13), none⟩]) (.seq (.seq (.ops [⟨some 14, .fadr 1 (.tmp 3), none⟩, ⟨some 15, .load 1 false (.tmp 14), none⟩, ⟨some 16, .bin .neq (.tmp 15) (.const (.int .i64 0)), none⟩, ⟨some 17, .mov (.tmp 16), none⟩, ⟨some 18, .fadr 0 (.tmp 6), some (17, false)⟩, ⟨some 19, .load 1 false (.tmp 18), some (17, false)⟩, ⟨some 20, .bin .neq (.tmp 19) (.const (.int .i64 0)), some (17, false)⟩, ⟨some 21, .pick (.tmp 17) (.const (.bool true)) (.tmp 20), none⟩, ⟨some 22, .mov (.tmp 21), none⟩, ⟨some 23, .fadr 1 (.tmp 6), some (22, false)⟩, ⟨some 24, .load 1 false (.tmp 23), some (22, false)⟩, ⟨some 25, .bin .geq (.tmp 24) (.const (.int .i64 1000)), some (22, false)⟩, ⟨some 26, .pick (.tmp 22) (.const (.bool true)) (.tmp 25), none⟩]) (.cond (.tmp 26) (.seq (.ops [⟨some 27, .load 5 true (.tmp 2), none⟩, ⟨none, .store 5 (.tmp 4) (.tmp 27), none⟩, ⟨some 5, .mov (.const (.bool false)), none⟩]) .ret) .skip)) (.seq (.ops [⟨some 28, .fadr 1 (.tmp 6), none⟩, ⟨some 29, .load 1 false (.tmp 28), none⟩, ⟨some 30, .bin .add (.tmp 29) (.const (.int .i64 1)), none⟩, ⟨some 31, .bld [(.int .i64 0), (.int .i64 0)] [(0, 1, (.const (.int .i64 1))), (1, 1, (.tmp 30))], none⟩, ⟨some 32, .fadr 0 (.tmp 2), none⟩, ⟨some 33, .iarr 2 2 (.tmp 32) (.const (.int .i64 0)), none⟩, ⟨none, .store 2 (.tmp 33) (.tmp 31), none⟩]) (.seq (.ops [⟨some 34, .load 5 true (.tmp 2), none⟩, ⟨some 35, .fadr 1 (.tmp 6), none⟩, ⟨some 36, .load 1 false (.tmp 35), none⟩, ⟨some 37, .bin .add (.tmp 36) (.const (.int .i64 1)), none⟩, ⟨some 38, .call 69 [(.tmp 34), (.const (.int .i64 0)), (.const (.int .i64 1)), (.tmp 37)], none⟩, ⟨none, .store 5 (.tmp 4) (.tmp 38), none⟩, ⟨some 5, .mov (.const (.bool true)), none⟩]) .ret)))) (.seq (.ops [⟨some 40, .bin .eql (.tmp 8) (.const (.int .i64 2)), none⟩, ⟨some 39, .mov (.tmp 40), none⟩]) (.cond (.tmp 39) (.seq (.seq (.ops [⟨some 41, .fadr 1 (.tmp 3), none⟩, ⟨some 42, .load 1 false (.tmp 41), none⟩, ⟨some 43, .bin .neq (.tmp 42) (.const (.int .i64 0)), none⟩, ⟨some 44, .mov (.tmp 43), none⟩, ⟨some 45, .fadr 0 (.tmp 2), some (44, false)⟩, ⟨some 46, .iarr 2 2 (.tmp 45) (.const (.int .i64 1)), some (44, false)⟩, ⟨some 47, .fadr 0 (.tmp 46), some (44, false)⟩, ⟨some 48, .load 1 false (.tmp 47), some (44, false)⟩, ⟨some 49, .bin .neq (.tmp 48) (.const (.int .i64 2)), some (44, false)⟩, ⟨some 50, .pick (.tmp 44) (.const (.bool true)) (.tmp 49), none⟩]) (.cond (.tmp 50) (.seq (.ops [⟨some 51, .load 5 true (.tmp 2), none⟩, ⟨none, .store 5 (.tmp 4) (.tmp 51), none⟩, ⟨some 5, .mov (.const (.bool false)), none⟩]) .ret) .skip)) (.seq (.ops [⟨some 52, .fadr 0 (.tmp 2), none⟩, ⟨some 53, .iarr 2 2 (.tmp 52) (.const (.int .i64 1)), none⟩, ⟨some 54, .fadr 0 (.tmp 53), none⟩, ⟨none, .store 1 (.tmp 54) (.const (.int .i64 3)), none⟩]) (.seq (.ops [⟨some 55, .load 5 true (.tmp 2), none⟩, ⟨some 56, .fadr 0 (.tmp 2), none⟩, ⟨some 57, .iarr 2 2 (.tmp 56) (.const (.int .i64 1)), none⟩, ⟨some 58, .fadr 1 (.tmp 57), none⟩, ⟨some 59, .load 1 false (.tmp 58), none⟩, ⟨some 60, .call 69 [(.tmp 55), (.const (.int .i64 1)), (.const (.int .i64 2)), (.tmp 59)], none⟩, ⟨none, .store 5 (.tmp 4) (.tmp 60), none⟩, ⟨some 5, .mov (.const (.bool true)), none⟩]) .ret))) (.seq (.seq (.ops [⟨some 62, .bin .eql (.tmp 8) (.const (.int .i64 3)), none⟩, ⟨some 61, .mov (.tmp 62), none⟩]) (.cond (.tmp 61) .skip (.ops [⟨some 63, .bin .eql (.tmp 8) (.const (.int .i64 4)), none⟩, ⟨some 61, .mov (.tmp 63), none⟩]))) (.cond (.tmp 61) (.seq (.seq (.ops [⟨some 64, .fadr 1 (.tmp 3), none⟩, ⟨some 65, .load 1 false (.tmp 64), none⟩, ⟨some 66, .call 38 [(.tmp 65), (.const (.int .i64 0)), (.const (.int .i64 1))], none⟩, ⟨some 67, .una .not (.tmp 66), none⟩]) (.cond (.tmp 67) (.seq (.ops [⟨some 68, .load 5 true (.tmp 2), none⟩, ⟨none, .store 5 (.tmp 4) (.tmp 68), none⟩, ⟨some 5, .mov (.const (.bool false)), none⟩]) .ret) .skip)) (.seq (.seq (.ops [⟨some 69, .fadr 0 (.tmp 3), none⟩, ⟨some 70, .load 1 false (.tmp 69), none⟩, ⟨some 71, .bin .eql (.tmp 70) (.const (.int .i64 3)), none⟩]) (.cond (.tmp 71) (.seq (.ops [⟨some 72, .load 5 true (.tmp 2), none⟩, ⟨some 73, .fadr 1 (.tmp 3), none⟩, ⟨some 74, .load 1 false (.tmp 73), none⟩, ⟨some 75, .call 75 [(.tmp 72), (.tmp 74)], none⟩, ⟨some 76, .ext (.tmp 75) 0, none⟩, ⟨some 77, .ext (.tmp 75) 1, none⟩, ⟨none, .store 5 (.tmp 4) (.tmp 76), none⟩, ⟨some 5, .mov (.tmp 77), none⟩]) .ret) .skip)) (.seq (.ops [⟨some 78, .load 5 true (.tmp 2), none⟩, ⟨some 79, .fadr 1 (.tmp 3), none⟩, ⟨some 80, .load 1 false (.tmp 79), none⟩, ⟨some 81, .call 45 [(.tmp 78), (.tmp 80)], none⟩, ⟨none, .store 5 (.tmp 4) (.tmp 81), none⟩, ⟨some 5, .mov (.const (.bool true)), none⟩]) .ret))) (.seq (.seq (.ops [⟨some 83, .bin .eql (.tmp 8) (.const (.int .i64 5)), none⟩, ⟨some 82, .mov (.tmp 83), none⟩]) (.cond (.tmp 82) .skip (.seq (.ops [⟨some 84, .bin .eql (.tmp 8) (.const (.int .i64 6)), none⟩, ⟨some 82, .mov (.tmp 84), none⟩]) (.cond (.tmp 82) .skip (.ops [⟨some 85, .bin .eql (.tmp 8) (.const (.int .i64 7)), none⟩, ⟨some 82, .mov (.tmp 85), none⟩]))))) (.cond (.tmp 82) (.seq (.seq (.ops [⟨some 86, .fadr 1 (.tmp 3), none⟩, ⟨some 87, .load 1 false (.tmp 86), none⟩, ⟨some 88, .fadr 4 (.tmp 2), none⟩, ⟨some 89, .load 1 false (.tmp 88), none⟩, ⟨some 90, .len (.tmp 89), none⟩, ⟨some 91, .bin .sub (.tmp 90) (.const (.int .i64 1)), none⟩, ⟨some 92, .call 38 [(.tmp 87), (.const (.int .i64 0)), (.tmp 91)], none⟩, ⟨some 93, .una .not (.tmp 92), none⟩]) (.cond (.tmp 93) (.seq (.ops [⟨some 94, .load 5 true (.tmp 2), none⟩, ⟨none, .store 5 (.tmp 4) (.tmp 94), none⟩, ⟨some 5, .mov (.const (.bool false)), none⟩]) .ret) .skip)) (.seq (.ops [⟨some 95, .load 5 true (.tmp 2), none⟩, ⟨some 96, .fadr 0 (.tmp 3), none⟩, ⟨some 97, .load 1 false (.tmp 96), none⟩, ⟨some 98, .fadr 1 (.tmp 3), none⟩, ⟨some 99, .load 1 false (.tmp 98), none⟩, ⟨some 100, .call 68 [(.tmp 95), (.tmp 97), (.tmp 99)], none⟩, ⟨none, .store 5 (.tmp 4) (.tmp 100), none⟩, ⟨some 5, .mov (.const (.bool true)), none⟩]) .ret)) .skip)))))))))) (.seq (.ops [⟨some 101, .load 5 true (.tmp 2), none⟩, ⟨none, .store 5 (.tmp 4) (.tmp 101), none⟩, ⟨some 5, .mov (.const (.bool false)), none⟩]) .ret)))
@[reducible] def rv55 : List RV := [.cell 4 5 true, .tmp 5]
theorem low55 : lowC Try.prog tau Try.f55.ntmps (Try.f55.body.getD .skip) = some (erase ic55) := by kernel_rfl
theorem res55 : lowR Try.prog Try.f55.results.toList = some rv55 := by kernel_rfl
theorem bod55 : Try.f55.body = some (Try.f55.body.getD .skip) := by kernel_rfl
theorem cal55 : callable Try.prog 55 = true := by kernel_rfl

end Go.Proofs.YtiakjdcognckpaaE

/-! The code of a function, in the engine's words. -/
namespace Go.Proofs.YtiakjdcognckpaaE
open Go Go.RowKit
@[reducible] def ic21 : IC := (.seq (.ops [⟨some 2, .box (.tmp 0), none⟩, ⟨some 3, .box (.tmp 1), none⟩, ⟨some 4, .new [(.int .i64 0), (.int .i64 0), (.int .i64 0), (.int .i64 0), (.slice none 0 0)], none⟩, ⟨some 5, .mov (.const (.bool false)), none⟩]) (.seq (.ops [⟨some 8, .load 5 true (.tmp 2), none⟩, ⟨some 9, .call 43 [(.tmp 8)], none⟩, ⟨none, .store 5 (.tmp 2) (.tmp 9), none⟩]) (.seq (.seq (.ops [⟨some 10, .load 5 true (.tmp 2), none⟩, ⟨some 11, .call 32 [(.tmp 10)], none⟩, ⟨some 12, .una .not (.tmp 11), none⟩]) (.cond (.tmp 12) (.seq (.ops [⟨some 13, .load 5 true (.tmp 2), none⟩, ⟨none, .store 5 (.tmp 4) (.tmp 13), none⟩, ⟨some 5, .mov (.const (.bool false)), none⟩]) .ret) .skip)) (.seq (.draw [⟨some 15, .load 5 true (.tmp 2), none⟩, ⟨some 16, .call 43 [(.tmp 15)], none⟩, ⟨some 17, .load 2 true (.tmp 3), none⟩, ⟨some 18, .call 55 [(.tmp 16), (.tmp 17)], none⟩, ⟨some 14, .mov (.tmp 18), none⟩, ⟨some 19, .ext (.tmp 14) 0, none⟩, ⟨some 20, .ext (.tmp 14) 1, none⟩, ⟨some 6, .new [(.int .i64 0), (.int .i64 0), (.int .i64 0), (.int .i64 0), (.slice none 0 0)], none⟩, ⟨none, .store 5 (.tmp 6) (.tmp 19), none⟩, ⟨some 7, .mov (.tmp 20), none⟩] (.held ⟨some 15, .load 5 true (.tmp 2), none⟩ (.held ⟨some 17, .load 2 true (.tmp 3), none⟩ (.alt ⟨some 16, .call 43 [(.tmp 15)], none⟩ (.alt ⟨some 18, .call 55 [(.tmp 16), (.tmp 17)], none⟩ (.held ⟨some 14, .mov (.tmp 18), none⟩ (.held ⟨some 19, .ext (.tmp 14) 0, none⟩ (.held ⟨some 20, .ext (.tmp 14) 1, none⟩ (.alt ⟨some 6, .new [(.int .i64 0), (.int .i64 0), (.int .i64 0), (.int .i64 0), (.slice none 0 0)], none⟩ (.alt ⟨none, .store 5 (.tmp 6) (.tmp 19), none⟩ (.held ⟨some 7, .mov (.tmp 20), none⟩ .done) .stop) .stop)))) (.alt ⟨some 6, .new [(.int .i64 0), (.int .i64 0), (.int .i64 0), (.int .i64 0), (.slice none 0 0)], none⟩ (.alt ⟨some 18, .call 55 [(.tmp 16), (.tmp 17)], none⟩ (.held ⟨some 14, .mov (.tmp 18), none⟩ (.held ⟨some 19, .ext (.tmp 14) 0, none⟩ (.held ⟨some 20, .ext (.tmp 14) 1, none⟩ (.alt ⟨none, .store 5 (.tmp 6) (.tmp 19), none⟩ (.held ⟨some 7, .mov (.tmp 20), none⟩ .done) .stop)))) .stop) .stop)) (.alt ⟨some 6, .new [(.int .i64 0), (.int .i64 0), (.int .i64 0), (.int .i64 0), (.slice none 0 0)], none⟩ (.alt ⟨some 16, .call 43 [(.tmp 15)], none⟩ (.alt ⟨some 18, .call 55 [(.tmp 16), (.tmp 17)], none⟩ (.held ⟨some 14, .mov (.tmp 18), none⟩ (.held ⟨some 19, .ext (.tmp 14) 0, none⟩ (.held ⟨some 20, .ext (.tmp 14) 1, none⟩ (.alt ⟨none, .store 5 (.tmp 6) (.tmp 19), none⟩ (.held ⟨some 7, .mov (.tmp 20), none⟩ .done) .stop)))) .stop) .stop) .stop))))) (.seq (.seq (.ops [⟨some 21, .mov (.tmp 7), none⟩, ⟨some 22, .una .not (.tmp 21), none⟩, ⟨some 23, .mov (.tmp 22), none⟩, ⟨some 24, .fadr 4 (.tmp 6), some (23, false)⟩, ⟨some 25, .load 1 false (.tmp 24), some (23, false)⟩, ⟨some 26, .len (.tmp 25), some (23, false)⟩, ⟨some 27, .bin .gtr (.tmp 26) (.const (.int .i64 40)), some (23, false)⟩, ⟨some 28, .pick (.tmp 23) (.const (.bool true)) (.tmp 27), none⟩]) (.cond (.tmp 28) (.seq (.ops [⟨some 29, .load 5 true (.tmp 2), none⟩, ⟨none, .store 5 (.tmp 4) (.tmp 29), none⟩, ⟨some 5, .mov (.const (.bool false)), none⟩]) .ret) .skip)) (.seq (.ops [⟨some 30, .load 5 true (.tmp 6), none⟩, ⟨none, .store 5 (.tmp 4) (.tmp 30), none⟩, ⟨some 5, .mov (.const (.bool true)), none⟩]) .ret))))))
@[reducible] def rv21 : List RV := [.cell 4 5 true, .tmp 5]
theorem low21 : lowC Try.prog tau Try.f21.ntmps (Try.f21.body.getD .skip) = some (erase ic21) := by kernel_rfl
theorem res21 : lowR Try.prog Try.f21.results.toList = some rv21 := by kernel_rfl
theorem bod21 : Try.f21.body = some (Try.f21.body.getD .skip) := by kernel_rfl
theorem cal21 : callable Try.prog 21 = true := by kernel_rfl

end Go.Proofs.YtiakjdcognckpaaE

/-! DoEvent, of the reference. -/
namespace Go.Proofs.YtiakjdcognckpaaE
open Go Go.RowKit
set_option linter.unusedSimpArgs false
set_option linter.unusedVariables false
set_option maxRecDepth 20000

def wayD (d : Du) (k : Int) (p : Nat) : Du :=
  if k = 7 then ⟨d.a, d.x, d.b, d.y, d.q ++ [d.q.getD p ⟨0, 0, 0⟩]⟩ else if k = 5 then arr ⟨d.a, d.x, d.b, d.y, delAt d.q p⟩ (d.q.getD p ⟨0, 0, 0⟩) else ⟨d.a, d.x, d.b, d.y, delAt d.q p⟩
def evOk (d : Du) (k p : Int) : Bool :=
  if k = 1 then decide (p = 0 ∧ d.a = 0 ∧ d.x < 1000) else if k = 2 then decide (p = 0 ∧ d.b = 2) else
  if k = 3 then (decide (p = 0 ∨ p = 1) && clearOk d p) else if k = 4 then decide (p = 0 ∨ p = 1) else
  if k = 5 ∨ k = 6 ∨ k = 7 then decide (0 ≤ p ∧ p ≤ (d.q.length : Int) - 1) else false
def evMv (d : Du) (k p : Int) : Bool := evOk d k p && (if k = 4 then timerG d p else true)
def evD (d : Du) (k p : Int) : Du :=
  if evOk d k p = false then d else
  if k = 1 then ⟨1, d.x + 1, d.b, d.y, d.q ++ [⟨1, 1, d.x + 1⟩]⟩ else if k = 2 then ⟨d.a, d.x, 3, d.y, d.q ++ [⟨0, 2, d.y⟩]⟩ else
  if k = 3 then cleared d p else if k = 4 then timer d p else wayD d k p.toNat
theorem arrG_no {d : Du} {s : Sig} (h : arrG d s = false) : (arr d s).q = d.q := by
  unfold arrG at h; unfold arr
  repeat' split
  all_goals first | rfl | (simp_all; done)
theorem arrG_yes {d : Du} {s : Sig} (h : arrG d s = true) : (arr d s).q.length = d.q.length + 1 := by
  unfold arrG at h; unfold arr
  repeat' split
  all_goals first | (simp; done) | (simp_all; done)
def spWay : Spec := ⟨fun _ => takeA5, fun args objs K => match args, objs with
  | [.agg [.v (.int .i64 a), .v (.int .i64 x), .v (.int .i64 b), .v (.int .i64 y), .sub 0 3 0 n], .v (.int .i64 k), .v (.int .i64 p)], [.row .sig q] =>
      (n = q.length ∧ q.length ≤ 1099511627776 ∧ (0 ≤ p ∧ p < (q.length : Int)) ∧ (k = 5 ∨ k = 6 ∨ k = 7) ∧ (((q.getD p.toNat ⟨0, 0, 0⟩).to = 0 ∨ (q.getD p.toNat ⟨0, 0, 0⟩).to = 1) ∧ (1 ≤ (q.getD p.toNat ⟨0, 0, 0⟩).kind ∧ (q.getD p.toNat ⟨0, 0, 0⟩).kind ≤ 4))) ∧
      K (.agg [.v (.int .i64 (wayD ⟨a, x, b, y, q⟩ k p.toNat).a), .v (.int .i64 (wayD ⟨a, x, b, y, q⟩ k p.toNat).x), .v (.int .i64 (wayD ⟨a, x, b, y, q⟩ k p.toNat).b), .v (.int .i64 (wayD ⟨a, x, b, y, q⟩ k p.toNat).y), .sub 1 3 0 (wayD ⟨a, x, b, y, q⟩ k p.toNat).q.length]) [(1, .row .sig (wayD ⟨a, x, b, y, q⟩ k p.toNat).q)] 2
  | _, _ => False, false⟩
theorem spWay_t {L : Hp} {a : List AVal} : Spec.take spWay L a = takeA5 a := id rfl
theorem spWay_k : Spec.keep spWay = false := id rfl
theorem spWay_f {a} {x} {b} {y} {n} {k} {p} {q} {K : AVal → Hp → Nat → Prop} : Spec.f spWay ([.agg [.v (.int .i64 a), .v (.int .i64 x), .v (.int .i64 b), .v (.int .i64 y), .sub 0 3 0 n], .v (.int .i64 k), .v (.int .i64 p)]) ([.row .sig q]) K = ((n = q.length ∧ q.length ≤ 1099511627776 ∧ (0 ≤ p ∧ p < (q.length : Int)) ∧ (k = 5 ∨ k = 6 ∨ k = 7) ∧ (((q.getD p.toNat ⟨0, 0, 0⟩).to = 0 ∨ (q.getD p.toNat ⟨0, 0, 0⟩).to = 1) ∧ (1 ≤ (q.getD p.toNat ⟨0, 0, 0⟩).kind ∧ (q.getD p.toNat ⟨0, 0, 0⟩).kind ≤ 4))) ∧
      K (.agg [.v (.int .i64 (wayD ⟨a, x, b, y, q⟩ k p.toNat).a), .v (.int .i64 (wayD ⟨a, x, b, y, q⟩ k p.toNat).x), .v (.int .i64 (wayD ⟨a, x, b, y, q⟩ k p.toNat).b), .v (.int .i64 (wayD ⟨a, x, b, y, q⟩ k p.toNat).y), .sub 1 3 0 (wayD ⟨a, x, b, y, q⟩ k p.toNat).q.length]) [(1, .row .sig (wayD ⟨a, x, b, y, q⟩ k p.toNat).q)] 2) := id rfl
theorem valid68 : Valid Try.prog 68 spWay := by
  refine validI (Γ := lk [(80, spArr)]) Try.func68 bod68 low68 res68 (good_of ⟨⟨cal80, valid80⟩, trivial⟩) ?_
  intro E args objs K h hE hG hP
  simp only [spWay] at h
  split at h
  · refine ⟨by simp [Try.ntmps68], ?_⟩
    rename_i a x b y n k p q
    obtain ⟨⟨rfl, b1, b2, hk, hs1, hs2⟩, h⟩ := h
    obtain ⟨i, rfl⟩ : ∃ i : Nat, p = i := ⟨p.toNat, by omega⟩
    rw [Int.toNat_natCast] at h hs1 hs2
    have t1 : ((i : Int) - 0).toNat = i := by omega
    have t2 : ((i : Int) + 1).toNat = i + 1 := by omega
    have t3 : ((q.length : Int) - ((i : Int) + 1)).toNat = q.length - (i + 1) := by omega
    have t4 : (q.drop (i + 1)).take (q.length - (i + 1)) = q.drop (i + 1) := List.take_of_length_le (by rw [List.length_drop]; omega)
    have t5 : (q.drop (i + 1)).length = q.length - (i + 1) := List.length_drop
    have t10 := delAt_len q i (by omega)
    have t6 : i + (q.length - (i + 1)) = (delAt q i).length := by omega
    have t11 : q.take i ++ q.drop (i + 1) = delAt q i := rfl
    have t12 : wr .i64 ((i : Int) + 1) = (i : Int) + 1 := wrap_id (by omega) (by omega)
    rcases hk with rfl | rfl | rfl
    · rcases hsd : q.getD i ⟨0, 0, 0⟩ with ⟨to, kind, call⟩
      rw [hsd] at hs1 hs2
      dsimp only at hs1 hs2
      simp (config := { maxSteps := 2000000 }) only [go_sem, hG, hP, Nat.reduceEqDiff, ↓reduceIte, reduceCtorEq, Nat.reduceAdd, Nat.reduceSub, Nat.reduceMul, Nat.reduceLT, Nat.reduceLeDiff, Int.reduceAdd, Int.reduceSub, Int.reduceMul, Int.reduceLT, Int.reduceLE, Int.reduceEq, Int.reduceNeg, Int.reduceNe, Int.reduceGE, Int.reduceGT, Nat.reduceBEq, Int.reduceToNat,  spArr_f, spArr_t, spArr_k, takeA5_eq, ↓stayK_eq, t1, t2, t3, t4, t5, t6, t11, t12, hsd]
      repeat (refine And.intro (by first | omega | (simp; done) | (simp; omega) | (unfold appRoom; omega)) ?_)
      refine .inr ?_
      simp only [wayD, show ¬ (5 : Int) = 7 by decide, if_true, if_false, hsd] at h
      repeat' (first | (refine And.intro ?_ ?_) | (with_reducible intro _))
      · omega
      · exact hs1
      · omega
      · omega
      · rename_i c
        have e := arrG_no c
        dsimp only at e
        rw [e] at h
        refine ⟨_, _, _, ?_, h⟩
        simp (config := { maxSteps := 2000000 }) only [go_sem, hG, hP, Nat.reduceEqDiff, ↓reduceIte, reduceCtorEq, Nat.reduceAdd, Nat.reduceSub, Nat.reduceMul, Nat.reduceLT, Nat.reduceLeDiff, Int.reduceAdd, Int.reduceSub, Int.reduceMul, Int.reduceLT, Int.reduceLE, Int.reduceEq, Int.reduceNeg, Int.reduceNe, Int.reduceGE, Int.reduceGT, Nat.reduceBEq, Int.reduceToNat]
        all_goals simp
      · refine ⟨_, _, _, ?_, h⟩
        simp (config := { maxSteps := 2000000 }) only [go_sem, hG, hP, Nat.reduceEqDiff, ↓reduceIte, reduceCtorEq, Nat.reduceAdd, Nat.reduceSub, Nat.reduceMul, Nat.reduceLT, Nat.reduceLeDiff, Int.reduceAdd, Int.reduceSub, Int.reduceMul, Int.reduceLT, Int.reduceLE, Int.reduceEq, Int.reduceNeg, Int.reduceNe, Int.reduceGE, Int.reduceGT, Nat.reduceBEq, Int.reduceToNat]
        all_goals simp
    · simp (config := { maxSteps := 2000000 }) only [go_sem, hG, hP, Nat.reduceEqDiff, ↓reduceIte, reduceCtorEq, Nat.reduceAdd, Nat.reduceSub, Nat.reduceMul, Nat.reduceLT, Nat.reduceLeDiff, Int.reduceAdd, Int.reduceSub, Int.reduceMul, Int.reduceLT, Int.reduceLE, Int.reduceEq, Int.reduceNeg, Int.reduceNe, Int.reduceGE, Int.reduceGT, Nat.reduceBEq, Int.reduceToNat,  spArr_f, spArr_t, spArr_k, takeA5_eq, ↓stayK_eq, t1, t2, t3, t4, t5, t6, t11, t12]
      repeat (refine And.intro (by first | omega | (simp; done) | (simp; omega) | (unfold appRoom; omega)) ?_)
      refine .inr ?_
      repeat (refine And.intro (by first | omega | (simp; done) | (simp; omega) | (unfold appRoom; omega)) ?_)
      simp only [wayD, show ¬ (6 : Int) = 7 by decide, show ¬ (6 : Int) = 5 by decide, if_false] at h
      refine ⟨_, _, _, ?_, h⟩
      simp (config := { maxSteps := 2000000 }) only [go_sem, hG, hP, Nat.reduceEqDiff, ↓reduceIte, reduceCtorEq, Nat.reduceAdd, Nat.reduceSub, Nat.reduceMul, Nat.reduceLT, Nat.reduceLeDiff, Int.reduceAdd, Int.reduceSub, Int.reduceMul, Int.reduceLT, Int.reduceLE, Int.reduceEq, Int.reduceNeg, Int.reduceNe, Int.reduceGE, Int.reduceGT, Nat.reduceBEq, Int.reduceToNat]
      all_goals simp
    · simp (config := { maxSteps := 2000000 }) only [go_sem, hG, hP, Nat.reduceEqDiff, ↓reduceIte, reduceCtorEq, Nat.reduceAdd, Nat.reduceSub, Nat.reduceMul, Nat.reduceLT, Nat.reduceLeDiff, Int.reduceAdd, Int.reduceSub, Int.reduceMul, Int.reduceLT, Int.reduceLE, Int.reduceEq, Int.reduceNeg, Int.reduceNe, Int.reduceGE, Int.reduceGT, Nat.reduceBEq, Int.reduceToNat,  spArr_f, spArr_t, spArr_k, takeA5_eq, ↓stayK_eq, t1, t2, t3, t4, t5, t6, t11, t12]
      repeat (refine And.intro (by first | omega | (simp; done) | (simp; omega) | (unfold appRoom; omega)) ?_)
      simp only [wayD, if_true] at h
      refine ⟨_, _, _, ?_, h⟩
      simp (config := { maxSteps := 2000000 }) only [go_sem, hG, hP, Nat.reduceEqDiff, ↓reduceIte, reduceCtorEq, Nat.reduceAdd, Nat.reduceSub, Nat.reduceMul, Nat.reduceLT, Nat.reduceLeDiff, Int.reduceAdd, Int.reduceSub, Int.reduceMul, Int.reduceLT, Int.reduceLE, Int.reduceEq, Int.reduceNeg, Int.reduceNe, Int.reduceGE, Int.reduceGT, Nat.reduceBEq, Int.reduceToNat]
      all_goals simp
  · exact h.elim
theorem timer_no {d : Du} {p : Int} (h : timerG d p = false) : timer d p = d := by
  unfold timerG at h; unfold timer
  repeat' split
  all_goals first | rfl | (simp_all; done)
theorem evOk_mv {d : Du} {k p : Int} (h : evMv d k p = true) : evOk d k p = true := by
  unfold evMv at h; simp at h; exact h.1
def evK (g ok : Bool) (a x b y : Int) (q : List Sig) (d : Du) (K : AVal → Hp → Nat → Prop) : Prop :=
  impK (g = false) (K (.tup [.agg [.v (.int .i64 a), .v (.int .i64 x), .v (.int .i64 b), .v (.int .i64 y), .sub 0 3 0 q.length], .v (.bool ok)]) [(0, .row .sig q)] 1) ∧
  impK (g = true) (K (.tup [.agg [.v (.int .i64 d.a), .v (.int .i64 d.x), .v (.int .i64 d.b), .v (.int .i64 d.y), .sub 1 3 0 d.q.length], .v (.bool true)]) [(1, .row .sig d.q)] 2)
theorem evK_eq {g ok : Bool} {a x b y : Int} {q : List Sig} {d : Du} {K : AVal → Hp → Nat → Prop} : evK g ok a x b y q d K = (impK (g = false) (K (.tup [.agg [.v (.int .i64 a), .v (.int .i64 x), .v (.int .i64 b), .v (.int .i64 y), .sub 0 3 0 q.length], .v (.bool ok)]) [(0, .row .sig q)] 1) ∧
  impK (g = true) (K (.tup [.agg [.v (.int .i64 d.a), .v (.int .i64 d.x), .v (.int .i64 d.b), .v (.int .i64 d.y), .sub 1 3 0 d.q.length], .v (.bool true)]) [(1, .row .sig d.q)] 2)) := id rfl
def spDo : Spec := ⟨fun _ => takeA5, fun args objs K => match args, objs with
  | [.agg [.v (.int .i64 a), .v (.int .i64 x), .v (.int .i64 b), .v (.int .i64 y), .sub 0 3 0 n], .agg [.v (.int .i64 k), .v (.int .i64 p)]], [.row .sig q] =>
      (n = q.length ∧ duOk ⟨a, x, b, y, q⟩ = true) ∧ evK (evMv ⟨a, x, b, y, q⟩ k p) (evOk ⟨a, x, b, y, q⟩ k p) a x b y q (evD ⟨a, x, b, y, q⟩ k p) K
  | _, _ => False, false⟩
theorem spDo_t {L : Hp} {a : List AVal} : Spec.take spDo L a = takeA5 a := id rfl
theorem spDo_k : Spec.keep spDo = false := id rfl
theorem spDo_f {a} {x} {b} {y} {n} {k} {p} {q} {K : AVal → Hp → Nat → Prop} : Spec.f spDo ([.agg [.v (.int .i64 a), .v (.int .i64 x), .v (.int .i64 b), .v (.int .i64 y), .sub 0 3 0 n], .agg [.v (.int .i64 k), .v (.int .i64 p)]]) ([.row .sig q]) K = ((n = q.length ∧ duOk ⟨a, x, b, y, q⟩ = true) ∧ evK (evMv ⟨a, x, b, y, q⟩ k p) (evOk ⟨a, x, b, y, q⟩ k p) a x b y q (evD ⟨a, x, b, y, q⟩ k p) K) := id rfl
theorem duOk_head {d : Du} (h : duOk d = true) : headP d.a d.x d.b d.y ∧ d.q.length ≤ 40 := by
  simp only [duOk, Bool.and_eq_true, decide_eq_true_eq] at h
  exact ⟨h.1.1, h.2⟩
theorem duOk_sig {d : Du} (h : duOk d = true) {i : Nat} (hi : i < d.q.length) : (0 ≤ (d.q.getD i ⟨0, 0, 0⟩).to ∧ (d.q.getD i ⟨0, 0, 0⟩).to ≤ 1) ∧ (1 ≤ (d.q.getD i ⟨0, 0, 0⟩).kind ∧ (d.q.getD i ⟨0, 0, 0⟩).kind ≤ 4) ∧ (0 ≤ (d.q.getD i ⟨0, 0, 0⟩).call ∧ (d.q.getD i ⟨0, 0, 0⟩).call ≤ d.x) := by
  simp only [duOk, Bool.and_eq_true, List.all_eq_true] at h
  have := h.1.2 (d.q.getD i ⟨0, 0, 0⟩) (by simp [List.getD, List.getElem?_eq_getElem hi])
  simp only [sigOk, Bool.and_eq_true, decide_eq_true_eq] at this
  exact ⟨this.1.1, this.1.2, this.2⟩
theorem side_cases (s : Int) : ((0 ≤ s ∧ s ≤ 1) = False ∧ ¬ s = 0 ∧ ¬ s = 1) ∨ s = 0 ∨ s = 1 := by
  by_cases h : 0 ≤ s ∧ s ≤ 1
  · right; omega
  · left; exact ⟨eq_false h, by omega, by omega⟩
theorem ev_cases (k : Int) : k = 1 ∨ k = 2 ∨ k = 3 ∨ k = 4 ∨ (k = 5 ∨ k = 6 ∨ k = 7) ∨ (¬ k = 1 ∧ ¬ k = 2 ∧ ¬ k = 3 ∧ ¬ k = 4 ∧ ¬ k = 5 ∧ ¬ k = 6 ∧ ¬ k = 7) := by omega
theorem valid55 : Valid Try.prog 55 spDo := by
  refine validI (Γ := lk [(69, spPutS), (38, spIn), (75, spClear), (45, spTimer), (68, spWay)]) Try.func55 bod55 low55 res55 (good_of ⟨⟨cal69, valid69⟩, ⟨cal38, valid38⟩, ⟨cal75, valid75⟩, ⟨cal45, valid45⟩, ⟨cal68, valid68⟩, trivial⟩) ?_
  intro E args objs K h hE hG hP
  simp only [spDo] at h
  split at h
  · refine ⟨by simp [Try.ntmps55], ?_⟩
    rename_i a x b y n k p q
    obtain ⟨⟨rfl, hd⟩, h⟩ := h
    obtain ⟨hH, hl⟩ := duOk_head hd
    unfold headP at hH
    dsimp only at hH hl
    have hw : wr .i64 ((q.length : Int) - 1) = (q.length : Int) - 1 := wrap_id (by omega) (by omega)
    rcases ev_cases k with rfl | rfl | rfl | rfl | hk | ⟨k1, k2, k3, k4, k5, k6, k7⟩
    · have hwx : wr .i64 (x + 1) = x + 1 := wrap_id (by omega) (by omega)
      by_cases hc : p = 0 ∧ a = 0 ∧ x < 1000
      · have hok : evOk ⟨a, x, b, y, q⟩ 1 p = true := by unfold evOk; rw [if_pos rfl]; exact decide_eq_true hc
        have hmv : evMv ⟨a, x, b, y, q⟩ 1 p = true := by unfold evMv; rw [hok, if_neg (by decide)]; rfl
        have hD : evD ⟨a, x, b, y, q⟩ 1 p = ⟨1, x + 1, b, y, q ++ [⟨1, 1, x + 1⟩]⟩ := by unfold evD; rw [hok, if_neg (by simp), if_pos rfl]
        rw [hmv, hD] at h
        replace h := h.2 rfl
        obtain ⟨rfl, rfl, hx⟩ := hc
        simp (config := { maxSteps := 2000000 }) only [go_sem, hG, hP, Nat.reduceEqDiff, ↓reduceIte, reduceCtorEq, Nat.reduceAdd, Nat.reduceSub, Nat.reduceMul, Nat.reduceLT, Nat.reduceLeDiff, Int.reduceAdd, Int.reduceSub, Int.reduceMul, Int.reduceLT, Int.reduceLE, Int.reduceEq, Int.reduceNeg, Int.reduceNe, Int.reduceGE, Int.reduceGT, Nat.reduceBEq, Int.reduceToNat,  spPutS_f, spPutS_t, spPutS_k, spIn_f, spIn_t, spIn_k, spClear_f, spClear_t, spClear_k, spTimer_f, spTimer_t, spTimer_k, spWay_f, spWay_t, spWay_k, takeA5_eq, ↓stayK_eq, hwx]
        repeat' (first | (refine And.intro ?_ ?_) | (with_reducible intro _))
        all_goals first | omega | (refine ⟨_, _, _, ?_, h⟩; simp (config := { maxSteps := 2000000 }) only [go_sem, hG, hP, Nat.reduceEqDiff, ↓reduceIte, reduceCtorEq, Nat.reduceAdd, Nat.reduceSub, Nat.reduceMul, Nat.reduceLT, Nat.reduceLeDiff, Int.reduceAdd, Int.reduceSub, Int.reduceMul, Int.reduceLT, Int.reduceLE, Int.reduceEq, Int.reduceNeg, Int.reduceNe, Int.reduceGE, Int.reduceGT, Nat.reduceBEq, Int.reduceToNat]; all_goals (first | (simp; done) | omega))
      · have hok : evOk ⟨a, x, b, y, q⟩ 1 p = false := by unfold evOk; rw [if_pos rfl]; exact decide_eq_false hc
        have hmv : evMv ⟨a, x, b, y, q⟩ 1 p = false := by unfold evMv; rw [hok]; rfl
        rw [hmv, hok] at h
        replace h := h.1 rfl
        simp (config := { maxSteps := 2000000 }) only [go_sem, hG, hP, Nat.reduceEqDiff, ↓reduceIte, reduceCtorEq, Nat.reduceAdd, Nat.reduceSub, Nat.reduceMul, Nat.reduceLT, Nat.reduceLeDiff, Int.reduceAdd, Int.reduceSub, Int.reduceMul, Int.reduceLT, Int.reduceLE, Int.reduceEq, Int.reduceNeg, Int.reduceNe, Int.reduceGE, Int.reduceGT, Nat.reduceBEq, Int.reduceToNat,  spPutS_f, spPutS_t, spPutS_k, spIn_f, spIn_t, spIn_k, spClear_f, spClear_t, spClear_k, spTimer_f, spTimer_t, spTimer_k, spWay_f, spWay_t, spWay_k, takeA5_eq, ↓stayK_eq, hwx]
        repeat' (first | (refine And.intro ?_ ?_) | (with_reducible intro _))
        all_goals first | omega | (refine ⟨_, _, _, ?_, h⟩; simp (config := { maxSteps := 2000000 }) only [go_sem, hG, hP, Nat.reduceEqDiff, ↓reduceIte, reduceCtorEq, Nat.reduceAdd, Nat.reduceSub, Nat.reduceMul, Nat.reduceLT, Nat.reduceLeDiff, Int.reduceAdd, Int.reduceSub, Int.reduceMul, Int.reduceLT, Int.reduceLE, Int.reduceEq, Int.reduceNeg, Int.reduceNe, Int.reduceGE, Int.reduceGT, Nat.reduceBEq, Int.reduceToNat]; all_goals (first | (simp; done) | omega))
    · by_cases hc : p = 0 ∧ b = 2
      · have hok : evOk ⟨a, x, b, y, q⟩ 2 p = true := by unfold evOk; rw [if_neg (by decide), if_pos rfl]; exact decide_eq_true hc
        have hmv : evMv ⟨a, x, b, y, q⟩ 2 p = true := by unfold evMv; rw [hok, if_neg (by decide)]; rfl
        have hD : evD ⟨a, x, b, y, q⟩ 2 p = ⟨a, x, 3, y, q ++ [⟨0, 2, y⟩]⟩ := by unfold evD; rw [hok, if_neg (by simp), if_neg (by decide), if_pos rfl]
        rw [hmv, hD] at h
        replace h := h.2 rfl
        obtain ⟨rfl, rfl⟩ := hc
        simp (config := { maxSteps := 2000000 }) only [go_sem, hG, hP, Nat.reduceEqDiff, ↓reduceIte, reduceCtorEq, Nat.reduceAdd, Nat.reduceSub, Nat.reduceMul, Nat.reduceLT, Nat.reduceLeDiff, Int.reduceAdd, Int.reduceSub, Int.reduceMul, Int.reduceLT, Int.reduceLE, Int.reduceEq, Int.reduceNeg, Int.reduceNe, Int.reduceGE, Int.reduceGT, Nat.reduceBEq, Int.reduceToNat,  spPutS_f, spPutS_t, spPutS_k, spIn_f, spIn_t, spIn_k, spClear_f, spClear_t, spClear_k, spTimer_f, spTimer_t, spTimer_k, spWay_f, spWay_t, spWay_k, takeA5_eq, ↓stayK_eq]
        repeat' (first | (refine And.intro ?_ ?_) | (with_reducible intro _))
        all_goals first | omega | (refine ⟨_, _, _, ?_, h⟩; simp (config := { maxSteps := 2000000 }) only [go_sem, hG, hP, Nat.reduceEqDiff, ↓reduceIte, reduceCtorEq, Nat.reduceAdd, Nat.reduceSub, Nat.reduceMul, Nat.reduceLT, Nat.reduceLeDiff, Int.reduceAdd, Int.reduceSub, Int.reduceMul, Int.reduceLT, Int.reduceLE, Int.reduceEq, Int.reduceNeg, Int.reduceNe, Int.reduceGE, Int.reduceGT, Nat.reduceBEq, Int.reduceToNat]; all_goals (first | (simp; done) | omega))
      · have hok : evOk ⟨a, x, b, y, q⟩ 2 p = false := by unfold evOk; rw [if_neg (by decide), if_pos rfl]; exact decide_eq_false hc
        have hmv : evMv ⟨a, x, b, y, q⟩ 2 p = false := by unfold evMv; rw [hok]; rfl
        rw [hmv, hok] at h
        replace h := h.1 rfl
        simp (config := { maxSteps := 2000000 }) only [go_sem, hG, hP, Nat.reduceEqDiff, ↓reduceIte, reduceCtorEq, Nat.reduceAdd, Nat.reduceSub, Nat.reduceMul, Nat.reduceLT, Nat.reduceLeDiff, Int.reduceAdd, Int.reduceSub, Int.reduceMul, Int.reduceLT, Int.reduceLE, Int.reduceEq, Int.reduceNeg, Int.reduceNe, Int.reduceGE, Int.reduceGT, Nat.reduceBEq, Int.reduceToNat,  spPutS_f, spPutS_t, spPutS_k, spIn_f, spIn_t, spIn_k, spClear_f, spClear_t, spClear_k, spTimer_f, spTimer_t, spTimer_k, spWay_f, spWay_t, spWay_k, takeA5_eq, ↓stayK_eq]
        repeat' (first | (refine And.intro ?_ ?_) | (with_reducible intro _))
        all_goals first | omega | (refine ⟨_, _, _, ?_, h⟩; simp (config := { maxSteps := 2000000 }) only [go_sem, hG, hP, Nat.reduceEqDiff, ↓reduceIte, reduceCtorEq, Nat.reduceAdd, Nat.reduceSub, Nat.reduceMul, Nat.reduceLT, Nat.reduceLeDiff, Int.reduceAdd, Int.reduceSub, Int.reduceMul, Int.reduceLT, Int.reduceLE, Int.reduceEq, Int.reduceNeg, Int.reduceNe, Int.reduceGE, Int.reduceGT, Nat.reduceBEq, Int.reduceToNat]; all_goals (first | (simp; done) | omega))
    · rcases side_cases p with ⟨hs, hs0, hs1⟩ | rfl | rfl
      · simp (config := { maxSteps := 2000000 }) only [go_sem, hG, hP, Nat.reduceEqDiff, ↓reduceIte, reduceCtorEq, Nat.reduceAdd, Nat.reduceSub, Nat.reduceMul, Nat.reduceLT, Nat.reduceLeDiff, Int.reduceAdd, Int.reduceSub, Int.reduceMul, Int.reduceLT, Int.reduceLE, Int.reduceEq, Int.reduceNeg, Int.reduceNe, Int.reduceGE, Int.reduceGT, Nat.reduceBEq, Int.reduceToNat,  spPutS_f, spPutS_t, spPutS_k, spIn_f, spIn_t, spIn_k, spClear_f, spClear_t, spClear_k, spTimer_f, spTimer_t, spTimer_k, spWay_f, spWay_t, spWay_k, takeA5_eq, ↓stayK_eq, hs]
        repeat' (first | (refine And.intro ?_ ?_) | (with_reducible intro _))
        all_goals first | omega | (unfold appRoom; omega) | (simp [impK_t, impK_f, evK_eq, evMv, evOk, evD, *] at h; refine ⟨_, _, _, ?_, h⟩; simp (config := { maxSteps := 2000000 }) only [go_sem, hG, hP, Nat.reduceEqDiff, ↓reduceIte, reduceCtorEq, Nat.reduceAdd, Nat.reduceSub, Nat.reduceMul, Nat.reduceLT, Nat.reduceLeDiff, Int.reduceAdd, Int.reduceSub, Int.reduceMul, Int.reduceLT, Int.reduceLE, Int.reduceEq, Int.reduceNeg, Int.reduceNe, Int.reduceGE, Int.reduceGT, Nat.reduceBEq, Int.reduceToNat]; all_goals (first | (simp [*]; done) | omega))
      · simp (config := { maxSteps := 2000000 }) only [go_sem, hG, hP, Nat.reduceEqDiff, ↓reduceIte, reduceCtorEq, Nat.reduceAdd, Nat.reduceSub, Nat.reduceMul, Nat.reduceLT, Nat.reduceLeDiff, Int.reduceAdd, Int.reduceSub, Int.reduceMul, Int.reduceLT, Int.reduceLE, Int.reduceEq, Int.reduceNeg, Int.reduceNe, Int.reduceGE, Int.reduceGT, Nat.reduceBEq, Int.reduceToNat,  spPutS_f, spPutS_t, spPutS_k, spIn_f, spIn_t, spIn_k, spClear_f, spClear_t, spClear_k, spTimer_f, spTimer_t, spTimer_k, spWay_f, spWay_t, spWay_k, takeA5_eq, ↓stayK_eq]
        repeat' (first | (refine And.intro ?_ ?_) | (with_reducible intro _))
        all_goals first | omega | (unfold appRoom; omega) | (simp [impK_t, impK_f, evK_eq, evMv, evOk, evD, *] at h; refine ⟨_, _, _, ?_, h⟩; simp (config := { maxSteps := 2000000 }) only [go_sem, hG, hP, Nat.reduceEqDiff, ↓reduceIte, reduceCtorEq, Nat.reduceAdd, Nat.reduceSub, Nat.reduceMul, Nat.reduceLT, Nat.reduceLeDiff, Int.reduceAdd, Int.reduceSub, Int.reduceMul, Int.reduceLT, Int.reduceLE, Int.reduceEq, Int.reduceNeg, Int.reduceNe, Int.reduceGE, Int.reduceGT, Nat.reduceBEq, Int.reduceToNat]; all_goals (first | (simp [*]; done) | omega))
      · simp (config := { maxSteps := 2000000 }) only [go_sem, hG, hP, Nat.reduceEqDiff, ↓reduceIte, reduceCtorEq, Nat.reduceAdd, Nat.reduceSub, Nat.reduceMul, Nat.reduceLT, Nat.reduceLeDiff, Int.reduceAdd, Int.reduceSub, Int.reduceMul, Int.reduceLT, Int.reduceLE, Int.reduceEq, Int.reduceNeg, Int.reduceNe, Int.reduceGE, Int.reduceGT, Nat.reduceBEq, Int.reduceToNat,  spPutS_f, spPutS_t, spPutS_k, spIn_f, spIn_t, spIn_k, spClear_f, spClear_t, spClear_k, spTimer_f, spTimer_t, spTimer_k, spWay_f, spWay_t, spWay_k, takeA5_eq, ↓stayK_eq]
        repeat' (first | (refine And.intro ?_ ?_) | (with_reducible intro _))
        all_goals first | omega | (unfold appRoom; omega) | (simp [impK_t, impK_f, evK_eq, evMv, evOk, evD, *] at h; refine ⟨_, _, _, ?_, h⟩; simp (config := { maxSteps := 2000000 }) only [go_sem, hG, hP, Nat.reduceEqDiff, ↓reduceIte, reduceCtorEq, Nat.reduceAdd, Nat.reduceSub, Nat.reduceMul, Nat.reduceLT, Nat.reduceLeDiff, Int.reduceAdd, Int.reduceSub, Int.reduceMul, Int.reduceLT, Int.reduceLE, Int.reduceEq, Int.reduceNeg, Int.reduceNe, Int.reduceGE, Int.reduceGT, Nat.reduceBEq, Int.reduceToNat]; all_goals (first | (simp [*]; done) | omega))
    · rcases side_cases p with ⟨hs, hs0, hs1⟩ | rfl | rfl
      · simp (config := { maxSteps := 2000000 }) only [go_sem, hG, hP, Nat.reduceEqDiff, ↓reduceIte, reduceCtorEq, Nat.reduceAdd, Nat.reduceSub, Nat.reduceMul, Nat.reduceLT, Nat.reduceLeDiff, Int.reduceAdd, Int.reduceSub, Int.reduceMul, Int.reduceLT, Int.reduceLE, Int.reduceEq, Int.reduceNeg, Int.reduceNe, Int.reduceGE, Int.reduceGT, Nat.reduceBEq, Int.reduceToNat,  spPutS_f, spPutS_t, spPutS_k, spIn_f, spIn_t, spIn_k, spClear_f, spClear_t, spClear_k, spTimer_f, spTimer_t, spTimer_k, spWay_f, spWay_t, spWay_k, takeA5_eq, ↓stayK_eq, hs]
        repeat' (first | (refine And.intro ?_ ?_) | (with_reducible intro _))
        all_goals first | omega | (unfold appRoom; omega) | (simp [impK_t, impK_f, evK_eq, evMv, evOk, evD, *] at h; refine ⟨_, _, _, ?_, h⟩; simp (config := { maxSteps := 2000000 }) only [go_sem, hG, hP, Nat.reduceEqDiff, ↓reduceIte, reduceCtorEq, Nat.reduceAdd, Nat.reduceSub, Nat.reduceMul, Nat.reduceLT, Nat.reduceLeDiff, Int.reduceAdd, Int.reduceSub, Int.reduceMul, Int.reduceLT, Int.reduceLE, Int.reduceEq, Int.reduceNeg, Int.reduceNe, Int.reduceGE, Int.reduceGT, Nat.reduceBEq, Int.reduceToNat]; all_goals (first | (simp [*]; done) | omega))
      · have hok : evOk ⟨a, x, b, y, q⟩ 4 0 = true := rfl
        cases hg : timerG ⟨a, x, b, y, q⟩ 0
        · have hT := timer_no hg
          have hmv : evMv ⟨a, x, b, y, q⟩ 4 0 = false := by unfold evMv; rw [hok, if_pos rfl, hg]; rfl
          rw [hmv, hok] at h
          replace h := h.1 rfl
          simp (config := { maxSteps := 2000000 }) only [go_sem, hG, hP, Nat.reduceEqDiff, ↓reduceIte, reduceCtorEq, Nat.reduceAdd, Nat.reduceSub, Nat.reduceMul, Nat.reduceLT, Nat.reduceLeDiff, Int.reduceAdd, Int.reduceSub, Int.reduceMul, Int.reduceLT, Int.reduceLE, Int.reduceEq, Int.reduceNeg, Int.reduceNe, Int.reduceGE, Int.reduceGT, Nat.reduceBEq, Int.reduceToNat,  spPutS_f, spPutS_t, spPutS_k, spIn_f, spIn_t, spIn_k, spClear_f, spClear_t, spClear_k, spTimer_f, spTimer_t, spTimer_k, spWay_f, spWay_t, spWay_k, takeA5_eq, ↓stayK_eq, hg, hT]
          repeat' (first | (refine And.intro ?_ ?_) | (with_reducible intro _))
          all_goals first | omega | (refine ⟨_, _, _, ?_, h⟩; simp (config := { maxSteps := 2000000 }) only [go_sem, hG, hP, Nat.reduceEqDiff, ↓reduceIte, reduceCtorEq, Nat.reduceAdd, Nat.reduceSub, Nat.reduceMul, Nat.reduceLT, Nat.reduceLeDiff, Int.reduceAdd, Int.reduceSub, Int.reduceMul, Int.reduceLT, Int.reduceLE, Int.reduceEq, Int.reduceNeg, Int.reduceNe, Int.reduceGE, Int.reduceGT, Nat.reduceBEq, Int.reduceToNat]; all_goals (first | (simp; done) | omega))
        · have hmv : evMv ⟨a, x, b, y, q⟩ 4 0 = true := by unfold evMv; rw [hok, if_pos rfl, hg]; rfl
          have hD : evD ⟨a, x, b, y, q⟩ 4 0 = timer ⟨a, x, b, y, q⟩ 0 := rfl
          rw [hmv, hD] at h
          replace h := h.2 rfl
          simp (config := { maxSteps := 2000000 }) only [go_sem, hG, hP, Nat.reduceEqDiff, ↓reduceIte, reduceCtorEq, Nat.reduceAdd, Nat.reduceSub, Nat.reduceMul, Nat.reduceLT, Nat.reduceLeDiff, Int.reduceAdd, Int.reduceSub, Int.reduceMul, Int.reduceLT, Int.reduceLE, Int.reduceEq, Int.reduceNeg, Int.reduceNe, Int.reduceGE, Int.reduceGT, Nat.reduceBEq, Int.reduceToNat,  spPutS_f, spPutS_t, spPutS_k, spIn_f, spIn_t, spIn_k, spClear_f, spClear_t, spClear_k, spTimer_f, spTimer_t, spTimer_k, spWay_f, spWay_t, spWay_k, takeA5_eq, ↓stayK_eq, hg]
          repeat' (first | (refine And.intro ?_ ?_) | (with_reducible intro _))
          all_goals first | omega | (refine ⟨_, _, _, ?_, h⟩; simp (config := { maxSteps := 2000000 }) only [go_sem, hG, hP, Nat.reduceEqDiff, ↓reduceIte, reduceCtorEq, Nat.reduceAdd, Nat.reduceSub, Nat.reduceMul, Nat.reduceLT, Nat.reduceLeDiff, Int.reduceAdd, Int.reduceSub, Int.reduceMul, Int.reduceLT, Int.reduceLE, Int.reduceEq, Int.reduceNeg, Int.reduceNe, Int.reduceGE, Int.reduceGT, Nat.reduceBEq, Int.reduceToNat]; all_goals (first | (simp; done) | omega))
      · have hok : evOk ⟨a, x, b, y, q⟩ 4 1 = true := rfl
        cases hg : timerG ⟨a, x, b, y, q⟩ 1
        · have hT := timer_no hg
          have hmv : evMv ⟨a, x, b, y, q⟩ 4 1 = false := by unfold evMv; rw [hok, if_pos rfl, hg]; rfl
          rw [hmv, hok] at h
          replace h := h.1 rfl
          simp (config := { maxSteps := 2000000 }) only [go_sem, hG, hP, Nat.reduceEqDiff, ↓reduceIte, reduceCtorEq, Nat.reduceAdd, Nat.reduceSub, Nat.reduceMul, Nat.reduceLT, Nat.reduceLeDiff, Int.reduceAdd, Int.reduceSub, Int.reduceMul, Int.reduceLT, Int.reduceLE, Int.reduceEq, Int.reduceNeg, Int.reduceNe, Int.reduceGE, Int.reduceGT, Nat.reduceBEq, Int.reduceToNat,  spPutS_f, spPutS_t, spPutS_k, spIn_f, spIn_t, spIn_k, spClear_f, spClear_t, spClear_k, spTimer_f, spTimer_t, spTimer_k, spWay_f, spWay_t, spWay_k, takeA5_eq, ↓stayK_eq, hg, hT]
          repeat' (first | (refine And.intro ?_ ?_) | (with_reducible intro _))
          all_goals first | omega | (refine ⟨_, _, _, ?_, h⟩; simp (config := { maxSteps := 2000000 }) only [go_sem, hG, hP, Nat.reduceEqDiff, ↓reduceIte, reduceCtorEq, Nat.reduceAdd, Nat.reduceSub, Nat.reduceMul, Nat.reduceLT, Nat.reduceLeDiff, Int.reduceAdd, Int.reduceSub, Int.reduceMul, Int.reduceLT, Int.reduceLE, Int.reduceEq, Int.reduceNeg, Int.reduceNe, Int.reduceGE, Int.reduceGT, Nat.reduceBEq, Int.reduceToNat]; all_goals (first | (simp; done) | omega))
        · have hmv : evMv ⟨a, x, b, y, q⟩ 4 1 = true := by unfold evMv; rw [hok, if_pos rfl, hg]; rfl
          have hD : evD ⟨a, x, b, y, q⟩ 4 1 = timer ⟨a, x, b, y, q⟩ 1 := rfl
          rw [hmv, hD] at h
          replace h := h.2 rfl
          simp (config := { maxSteps := 2000000 }) only [go_sem, hG, hP, Nat.reduceEqDiff, ↓reduceIte, reduceCtorEq, Nat.reduceAdd, Nat.reduceSub, Nat.reduceMul, Nat.reduceLT, Nat.reduceLeDiff, Int.reduceAdd, Int.reduceSub, Int.reduceMul, Int.reduceLT, Int.reduceLE, Int.reduceEq, Int.reduceNeg, Int.reduceNe, Int.reduceGE, Int.reduceGT, Nat.reduceBEq, Int.reduceToNat,  spPutS_f, spPutS_t, spPutS_k, spIn_f, spIn_t, spIn_k, spClear_f, spClear_t, spClear_k, spTimer_f, spTimer_t, spTimer_k, spWay_f, spWay_t, spWay_k, takeA5_eq, ↓stayK_eq, hg]
          repeat' (first | (refine And.intro ?_ ?_) | (with_reducible intro _))
          all_goals first | omega | (refine ⟨_, _, _, ?_, h⟩; simp (config := { maxSteps := 2000000 }) only [go_sem, hG, hP, Nat.reduceEqDiff, ↓reduceIte, reduceCtorEq, Nat.reduceAdd, Nat.reduceSub, Nat.reduceMul, Nat.reduceLT, Nat.reduceLeDiff, Int.reduceAdd, Int.reduceSub, Int.reduceMul, Int.reduceLT, Int.reduceLE, Int.reduceEq, Int.reduceNeg, Int.reduceNe, Int.reduceGE, Int.reduceGT, Nat.reduceBEq, Int.reduceToNat]; all_goals (first | (simp; done) | omega))
    · by_cases hp : 0 ≤ p ∧ p ≤ (q.length : Int) - 1
      · have hsg := duOk_sig hd (i := p.toNat) (by dsimp only; omega)
        dsimp only at hsg
        have hpe : (0 ≤ p ∧ p ≤ (q.length : Int) - 1) = True := eq_true hp
        have hok : evOk ⟨a, x, b, y, q⟩ k p = true := by
          unfold evOk
          rw [if_neg (by omega), if_neg (by omega), if_neg (by omega), if_neg (by omega), if_pos hk]
          exact decide_eq_true hp
        have hmv : evMv ⟨a, x, b, y, q⟩ k p = true := by
          unfold evMv
          rw [hok, if_neg (by omega)]; rfl
        have hD : evD ⟨a, x, b, y, q⟩ k p = wayD ⟨a, x, b, y, q⟩ k p.toNat := by
          unfold evD
          rw [hok, if_neg (by simp), if_neg (by omega), if_neg (by omega), if_neg (by omega), if_neg (by omega)]
        rw [hmv, hD] at h
        replace h := h.2 rfl
        rcases hk with rfl | rfl | rfl
        · simp (config := { maxSteps := 2000000 }) only [go_sem, hG, hP, Nat.reduceEqDiff, ↓reduceIte, reduceCtorEq, Nat.reduceAdd, Nat.reduceSub, Nat.reduceMul, Nat.reduceLT, Nat.reduceLeDiff, Int.reduceAdd, Int.reduceSub, Int.reduceMul, Int.reduceLT, Int.reduceLE, Int.reduceEq, Int.reduceNeg, Int.reduceNe, Int.reduceGE, Int.reduceGT, Nat.reduceBEq, Int.reduceToNat,  spPutS_f, spPutS_t, spPutS_k, spIn_f, spIn_t, spIn_k, spClear_f, spClear_t, spClear_k, spTimer_f, spTimer_t, spTimer_k, spWay_f, spWay_t, spWay_k, takeA5_eq, ↓stayK_eq, hw, hpe]
          repeat' (first | (refine And.intro ?_ ?_) | (with_reducible intro _))
          all_goals first | omega | (refine ⟨_, _, _, ?_, h⟩; simp (config := { maxSteps := 2000000 }) only [go_sem, hG, hP, Nat.reduceEqDiff, ↓reduceIte, reduceCtorEq, Nat.reduceAdd, Nat.reduceSub, Nat.reduceMul, Nat.reduceLT, Nat.reduceLeDiff, Int.reduceAdd, Int.reduceSub, Int.reduceMul, Int.reduceLT, Int.reduceLE, Int.reduceEq, Int.reduceNeg, Int.reduceNe, Int.reduceGE, Int.reduceGT, Nat.reduceBEq, Int.reduceToNat]; all_goals (first | (simp; done) | omega))
        · simp (config := { maxSteps := 2000000 }) only [go_sem, hG, hP, Nat.reduceEqDiff, ↓reduceIte, reduceCtorEq, Nat.reduceAdd, Nat.reduceSub, Nat.reduceMul, Nat.reduceLT, Nat.reduceLeDiff, Int.reduceAdd, Int.reduceSub, Int.reduceMul, Int.reduceLT, Int.reduceLE, Int.reduceEq, Int.reduceNeg, Int.reduceNe, Int.reduceGE, Int.reduceGT, Nat.reduceBEq, Int.reduceToNat,  spPutS_f, spPutS_t, spPutS_k, spIn_f, spIn_t, spIn_k, spClear_f, spClear_t, spClear_k, spTimer_f, spTimer_t, spTimer_k, spWay_f, spWay_t, spWay_k, takeA5_eq, ↓stayK_eq, hw, hpe]
          repeat' (first | (refine And.intro ?_ ?_) | (with_reducible intro _))
          all_goals first | omega | (refine ⟨_, _, _, ?_, h⟩; simp (config := { maxSteps := 2000000 }) only [go_sem, hG, hP, Nat.reduceEqDiff, ↓reduceIte, reduceCtorEq, Nat.reduceAdd, Nat.reduceSub, Nat.reduceMul, Nat.reduceLT, Nat.reduceLeDiff, Int.reduceAdd, Int.reduceSub, Int.reduceMul, Int.reduceLT, Int.reduceLE, Int.reduceEq, Int.reduceNeg, Int.reduceNe, Int.reduceGE, Int.reduceGT, Nat.reduceBEq, Int.reduceToNat]; all_goals (first | (simp; done) | omega))
        · simp (config := { maxSteps := 2000000 }) only [go_sem, hG, hP, Nat.reduceEqDiff, ↓reduceIte, reduceCtorEq, Nat.reduceAdd, Nat.reduceSub, Nat.reduceMul, Nat.reduceLT, Nat.reduceLeDiff, Int.reduceAdd, Int.reduceSub, Int.reduceMul, Int.reduceLT, Int.reduceLE, Int.reduceEq, Int.reduceNeg, Int.reduceNe, Int.reduceGE, Int.reduceGT, Nat.reduceBEq, Int.reduceToNat,  spPutS_f, spPutS_t, spPutS_k, spIn_f, spIn_t, spIn_k, spClear_f, spClear_t, spClear_k, spTimer_f, spTimer_t, spTimer_k, spWay_f, spWay_t, spWay_k, takeA5_eq, ↓stayK_eq, hw, hpe]
          repeat' (first | (refine And.intro ?_ ?_) | (with_reducible intro _))
          all_goals first | omega | (refine ⟨_, _, _, ?_, h⟩; simp (config := { maxSteps := 2000000 }) only [go_sem, hG, hP, Nat.reduceEqDiff, ↓reduceIte, reduceCtorEq, Nat.reduceAdd, Nat.reduceSub, Nat.reduceMul, Nat.reduceLT, Nat.reduceLeDiff, Int.reduceAdd, Int.reduceSub, Int.reduceMul, Int.reduceLT, Int.reduceLE, Int.reduceEq, Int.reduceNeg, Int.reduceNe, Int.reduceGE, Int.reduceGT, Nat.reduceBEq, Int.reduceToNat]; all_goals (first | (simp; done) | omega))
      · have hpe : (0 ≤ p ∧ p ≤ (q.length : Int) - 1) = False := eq_false hp
        have hok : evOk ⟨a, x, b, y, q⟩ k p = false := by
          unfold evOk
          rw [if_neg (by omega), if_neg (by omega), if_neg (by omega), if_neg (by omega), if_pos hk]
          exact decide_eq_false hp
        have hmv : evMv ⟨a, x, b, y, q⟩ k p = false := by
          unfold evMv
          rw [hok]; rfl
        rw [hmv, hok] at h
        replace h := h.1 rfl
        rcases hk with rfl | rfl | rfl
        · simp (config := { maxSteps := 2000000 }) only [go_sem, hG, hP, Nat.reduceEqDiff, ↓reduceIte, reduceCtorEq, Nat.reduceAdd, Nat.reduceSub, Nat.reduceMul, Nat.reduceLT, Nat.reduceLeDiff, Int.reduceAdd, Int.reduceSub, Int.reduceMul, Int.reduceLT, Int.reduceLE, Int.reduceEq, Int.reduceNeg, Int.reduceNe, Int.reduceGE, Int.reduceGT, Nat.reduceBEq, Int.reduceToNat,  spPutS_f, spPutS_t, spPutS_k, spIn_f, spIn_t, spIn_k, spClear_f, spClear_t, spClear_k, spTimer_f, spTimer_t, spTimer_k, spWay_f, spWay_t, spWay_k, takeA5_eq, ↓stayK_eq, hw, hpe]
          refine ⟨_, _, _, ?_, h⟩
          simp (config := { maxSteps := 2000000 }) only [go_sem, hG, hP, Nat.reduceEqDiff, ↓reduceIte, reduceCtorEq, Nat.reduceAdd, Nat.reduceSub, Nat.reduceMul, Nat.reduceLT, Nat.reduceLeDiff, Int.reduceAdd, Int.reduceSub, Int.reduceMul, Int.reduceLT, Int.reduceLE, Int.reduceEq, Int.reduceNeg, Int.reduceNe, Int.reduceGE, Int.reduceGT, Nat.reduceBEq, Int.reduceToNat]
          all_goals simp
        · simp (config := { maxSteps := 2000000 }) only [go_sem, hG, hP, Nat.reduceEqDiff, ↓reduceIte, reduceCtorEq, Nat.reduceAdd, Nat.reduceSub, Nat.reduceMul, Nat.reduceLT, Nat.reduceLeDiff, Int.reduceAdd, Int.reduceSub, Int.reduceMul, Int.reduceLT, Int.reduceLE, Int.reduceEq, Int.reduceNeg, Int.reduceNe, Int.reduceGE, Int.reduceGT, Nat.reduceBEq, Int.reduceToNat,  spPutS_f, spPutS_t, spPutS_k, spIn_f, spIn_t, spIn_k, spClear_f, spClear_t, spClear_k, spTimer_f, spTimer_t, spTimer_k, spWay_f, spWay_t, spWay_k, takeA5_eq, ↓stayK_eq, hw, hpe]
          refine ⟨_, _, _, ?_, h⟩
          simp (config := { maxSteps := 2000000 }) only [go_sem, hG, hP, Nat.reduceEqDiff, ↓reduceIte, reduceCtorEq, Nat.reduceAdd, Nat.reduceSub, Nat.reduceMul, Nat.reduceLT, Nat.reduceLeDiff, Int.reduceAdd, Int.reduceSub, Int.reduceMul, Int.reduceLT, Int.reduceLE, Int.reduceEq, Int.reduceNeg, Int.reduceNe, Int.reduceGE, Int.reduceGT, Nat.reduceBEq, Int.reduceToNat]
          all_goals simp
        · simp (config := { maxSteps := 2000000 }) only [go_sem, hG, hP, Nat.reduceEqDiff, ↓reduceIte, reduceCtorEq, Nat.reduceAdd, Nat.reduceSub, Nat.reduceMul, Nat.reduceLT, Nat.reduceLeDiff, Int.reduceAdd, Int.reduceSub, Int.reduceMul, Int.reduceLT, Int.reduceLE, Int.reduceEq, Int.reduceNeg, Int.reduceNe, Int.reduceGE, Int.reduceGT, Nat.reduceBEq, Int.reduceToNat,  spPutS_f, spPutS_t, spPutS_k, spIn_f, spIn_t, spIn_k, spClear_f, spClear_t, spClear_k, spTimer_f, spTimer_t, spTimer_k, spWay_f, spWay_t, spWay_k, takeA5_eq, ↓stayK_eq, hw, hpe]
          refine ⟨_, _, _, ?_, h⟩
          simp (config := { maxSteps := 2000000 }) only [go_sem, hG, hP, Nat.reduceEqDiff, ↓reduceIte, reduceCtorEq, Nat.reduceAdd, Nat.reduceSub, Nat.reduceMul, Nat.reduceLT, Nat.reduceLeDiff, Int.reduceAdd, Int.reduceSub, Int.reduceMul, Int.reduceLT, Int.reduceLE, Int.reduceEq, Int.reduceNeg, Int.reduceNe, Int.reduceGE, Int.reduceGT, Nat.reduceBEq, Int.reduceToNat]
          all_goals simp
    · simp (config := { maxSteps := 2000000 }) only [go_sem, hG, hP, Nat.reduceEqDiff, ↓reduceIte, reduceCtorEq, Nat.reduceAdd, Nat.reduceSub, Nat.reduceMul, Nat.reduceLT, Nat.reduceLeDiff, Int.reduceAdd, Int.reduceSub, Int.reduceMul, Int.reduceLT, Int.reduceLE, Int.reduceEq, Int.reduceNeg, Int.reduceNe, Int.reduceGE, Int.reduceGT, Nat.reduceBEq, Int.reduceToNat,  spPutS_f, spPutS_t, spPutS_k, spIn_f, spIn_t, spIn_k, spClear_f, spClear_t, spClear_k, spTimer_f, spTimer_t, spTimer_k, spWay_f, spWay_t, spWay_k, takeA5_eq, ↓stayK_eq, k1, k2, k3, k4, k5, k6, k7]
      repeat' (first | (refine And.intro ?_ ?_) | (with_reducible intro _))
      all_goals first | omega | (unfold appRoom; omega) | (simp [impK_t, impK_f, evK_eq, evMv, evOk, evD, *] at h; refine ⟨_, _, _, ?_, h⟩; simp (config := { maxSteps := 2000000 }) only [go_sem, hG, hP, Nat.reduceEqDiff, ↓reduceIte, reduceCtorEq, Nat.reduceAdd, Nat.reduceSub, Nat.reduceMul, Nat.reduceLT, Nat.reduceLeDiff, Int.reduceAdd, Int.reduceSub, Int.reduceMul, Int.reduceLT, Int.reduceLE, Int.reduceEq, Int.reduceNeg, Int.reduceNe, Int.reduceGE, Int.reduceGT, Nat.reduceBEq, Int.reduceToNat]; all_goals (first | (simp [*]; done) | omega))
  · exact h.elim
end Go.Proofs.YtiakjdcognckpaaE

/-! The code of a function, in the engine's words. -/
namespace Go.Proofs.YtiakjdcognckpaaE
open Go Go.RowKit
@[reducible] def ic23 : IC := (.seq (.ops [⟨some 2, .box (.tmp 0), none⟩, ⟨some 3, .box (.tmp 1), none⟩, ⟨some 4, .new [(.int .i64 0), (.int .i64 0), (.int .i64 0), (.int .i64 0), (.slice none 0 0)], none⟩, ⟨some 5, .mov (.const (.bool false)), none⟩]) (.seq (.ops [⟨some 11, .load 5 true (.tmp 2), none⟩, ⟨some 12, .call 49 [(.tmp 11)], none⟩, ⟨some 6, .new [(.int .i64 0), (.int .i64 0), (.int .i64 0), (.int .i64 0), (.slice none 0 0)], none⟩, ⟨none, .store 5 (.tmp 6) (.tmp 12), none⟩]) (.seq (.ops [⟨some 13, .load 5 true (.tmp 2), none⟩, ⟨some 14, .call 49 [(.tmp 13)], none⟩, ⟨none, .store 5 (.tmp 2) (.tmp 14), none⟩]) (.seq (.seq (.ops [⟨some 15, .load 5 true (.tmp 2), none⟩, ⟨some 16, .call 48 [(.tmp 15)], none⟩, ⟨some 17, .una .not (.tmp 16), none⟩]) (.cond (.tmp 17) (.seq (.ops [⟨some 18, .load 5 true (.tmp 6), none⟩, ⟨none, .store 5 (.tmp 4) (.tmp 18), none⟩, ⟨some 5, .mov (.const (.bool false)), none⟩]) .ret) .skip)) (.seq (.ops [⟨some 7, .mov (.const (.bool false)), none⟩]) (.seq (.seq (.ops [⟨some 19, .fadr 0 (.tmp 3), none⟩, ⟨some 20, .load 1 false (.tmp 19), none⟩]) (.block 0 (.seq (.ops [⟨some 22, .bin .eql (.tmp 20) (.const (.int .i64 1)), none⟩, ⟨some 21, .mov (.tmp 22), none⟩]) (.cond (.tmp 21) (.seq (.ops [⟨some 23, .fadr 0 (.tmp 2), none⟩, ⟨some 24, .iarr 2 2 (.tmp 23) (.const (.int .i64 0)), none⟩, ⟨some 8, .mov (.tmp 24), none⟩]) (.seq (.ops [⟨some 25, .fadr 1 (.tmp 3), none⟩, ⟨some 26, .load 1 false (.tmp 25), none⟩, ⟨some 27, .bin .eql (.tmp 26) (.const (.int .i64 0)), none⟩, ⟨some 28, .mov (.tmp 27), none⟩, ⟨some 29, .mov (.tmp 8), some (28, true)⟩, ⟨some 30, .nilc (.tmp 29), some (28, true)⟩, ⟨some 31, .fadr 0 (.tmp 30), some (28, true)⟩, ⟨some 32, .load 1 false (.tmp 31), some (28, true)⟩, ⟨some 33, .bin .eql (.tmp 32) (.const (.int .i64 0)), some (28, true)⟩, ⟨some 34, .pick (.tmp 28) (.tmp 33) (.const (.bool false)), none⟩, ⟨some 35, .mov (.tmp 34), none⟩, ⟨some 36, .mov (.tmp 8), some (35, true)⟩, ⟨some 37, .nilc (.tmp 36), some (35, true)⟩, ⟨some 38, .fadr 1 (.tmp 37), some (35, true)⟩, ⟨some 39, .load 1 false (.tmp 38), some (35, true)⟩, ⟨some 40, .bin .lss (.tmp 39) (.const (.int .i64 1000)), some (35, true)⟩, ⟨some 41, .pick (.tmp 35) (.tmp 40) (.const (.bool false)), none⟩]) (.cond (.tmp 41) (.seq (.ops [⟨some 42, .mov (.tmp 8), none⟩, ⟨some 43, .nilc (.tmp 42), none⟩, ⟨some 44, .fadr 1 (.tmp 43), none⟩, ⟨some 45, .load 1 false (.tmp 44), none⟩, ⟨some 46, .bin .add (.tmp 45) (.const (.int .i64 1)), none⟩, ⟨some 47, .nilc (.tmp 42), none⟩, ⟨some 48, .fadr 1 (.tmp 47), none⟩, ⟨none, .store 1 (.tmp 48) (.tmp 46), none⟩]) (.seq (.ops [⟨some 49, .mov (.tmp 8), none⟩, ⟨some 50, .nilc (.tmp 49), none⟩, ⟨some 51, .fadr 0 (.tmp 50), none⟩, ⟨none, .store 1 (.tmp 51) (.const (.int .i64 1)), none⟩]) (.seq (.ops [⟨some 52, .call 56 [(.tmp 2), (.const (.int .i64 0)), (.const (.int .i64 1))], none⟩]) (.ops [⟨some 7, .mov (.const (.bool true)), none⟩])))) .skip))) (.seq (.ops [⟨some 54, .bin .eql (.tmp 20) (.const (.int .i64 2)), none⟩, ⟨some 53, .mov (.tmp 54), none⟩]) (.cond (.tmp 53) (.seq (.ops [⟨some 55, .fadr 0 (.tmp 2), none⟩, ⟨some 56, .iarr 2 2 (.tmp 55) (.const (.int .i64 1)), none⟩, ⟨some 9, .mov (.tmp 56), none⟩]) (.seq (.ops [⟨some 57, .fadr 1 (.tmp 3), none⟩, ⟨some 58, .load 1 false (.tmp 57), none⟩, ⟨some 59, .bin .eql (.tmp 58) (.const (.int .i64 0)), none⟩, ⟨some 60, .mov (.tmp 59), none⟩, ⟨some 61, .mov (.tmp 9), some (60, true)⟩, ⟨some 62, .nilc (.tmp 61), some (60, true)⟩, ⟨some 63, .fadr 0 (.tmp 62), some (60, true)⟩, ⟨some 64, .load 1 false (.tmp 63), some (60, true)⟩, ⟨some 65, .bin .eql (.tmp 64) (.const (.int .i64 2)), some (60, true)⟩, ⟨some 66, .pick (.tmp 60) (.tmp 65) (.const (.bool false)), none⟩]) (.cond (.tmp 66) (.seq (.ops [⟨some 67, .mov (.tmp 9), none⟩, ⟨some 68, .nilc (.tmp 67), none⟩, ⟨some 69, .fadr 0 (.tmp 68), none⟩, ⟨none, .store 1 (.tmp 69) (.const (.int .i64 3)), none⟩]) (.seq (.ops [⟨some 70, .call 56 [(.tmp 2), (.const (.int .i64 1)), (.const (.int .i64 2))], none⟩]) (.ops [⟨some 7, .mov (.const (.bool true)), none⟩]))) .skip))) (.seq (.ops [⟨some 72, .bin .eql (.tmp 20) (.const (.int .i64 3)), none⟩, ⟨some 71, .mov (.tmp 72), none⟩]) (.cond (.tmp 71) (.seq (.ops [⟨some 73, .fadr 1 (.tmp 3), none⟩, ⟨some 74, .load 1 false (.tmp 73), none⟩, ⟨some 75, .call 40 [(.tmp 74), (.const (.int .i64 0)), (.const (.int .i64 1))], none⟩, ⟨some 76, .mov (.tmp 75), none⟩, ⟨some 77, .fadr 1 (.tmp 3), some (76, true)⟩, ⟨some 78, .load 1 false (.tmp 77), some (76, true)⟩, ⟨some 79, .fadr 0 (.tmp 2), some (76, true)⟩, ⟨some 80, .iarr 2 2 (.tmp 79) (.tmp 78), some (76, true)⟩, ⟨some 81, .fadr 0 (.tmp 80), some (76, true)⟩, ⟨some 82, .load 1 false (.tmp 81), some (76, true)⟩, ⟨some 83, .call 40 [(.tmp 82), (.const (.int .i64 1)), (.const (.int .i64 3))], some (76, true)⟩, ⟨some 84, .pick (.tmp 76) (.tmp 83) (.const (.bool false)), none⟩]) (.cond (.tmp 84) (.seq (.ops [⟨some 85, .fadr 1 (.tmp 3), none⟩, ⟨some 86, .load 1 false (.tmp 85), none⟩, ⟨some 87, .fadr 0 (.tmp 2), none⟩, ⟨some 88, .iarr 2 2 (.tmp 87) (.tmp 86), none⟩, ⟨some 89, .fadr 0 (.tmp 88), none⟩, ⟨none, .store 1 (.tmp 89) (.const (.int .i64 4)), none⟩]) (.seq (.ops [⟨some 90, .fadr 1 (.tmp 3), none⟩, ⟨some 91, .load 1 false (.tmp 90), none⟩, ⟨some 92, .call 56 [(.tmp 2), (.tmp 91), (.const (.int .i64 3))], none⟩]) (.ops [⟨some 7, .mov (.const (.bool true)), none⟩]))) .skip)) (.seq (.ops [⟨some 94, .bin .eql (.tmp 20) (.const (.int .i64 4)), none⟩, ⟨some 93, .mov (.tmp 94), none⟩]) (.cond (.tmp 93) (.seq (.ops [⟨some 95, .fadr 1 (.tmp 3), none⟩, ⟨some 96, .load 1 false (.tmp 95), none⟩, ⟨some 97, .call 40 [(.tmp 96), (.const (.int .i64 0)), (.const (.int .i64 1))], none⟩, ⟨some 7, .mov (.tmp 97), none⟩]) (.seq (.ops [⟨some 98, .mov (.tmp 7), none⟩]) (.cond (.tmp 98) (.seq (.ops [⟨some 99, .fadr 1 (.tmp 3), none⟩, ⟨some 100, .load 1 false (.tmp 99), none⟩, ⟨some 101, .fadr 0 (.tmp 2), none⟩, ⟨some 102, .iarr 2 2 (.tmp 101) (.tmp 100), none⟩, ⟨some 103, .fadr 0 (.tmp 102), none⟩, ⟨some 104, .load 1 false (.tmp 103), none⟩]) (.block 1 (.seq (.ops [⟨some 106, .bin .eql (.tmp 104) (.const (.int .i64 1)), none⟩, ⟨some 105, .mov (.tmp 106), none⟩]) (.cond (.tmp 105) (.ops [⟨some 107, .fadr 1 (.tmp 3), none⟩, ⟨some 108, .load 1 false (.tmp 107), none⟩, ⟨some 109, .call 56 [(.tmp 2), (.tmp 108), (.const (.int .i64 1))], none⟩]) (.seq (.ops [⟨some 111, .bin .eql (.tmp 104) (.const (.int .i64 4)), none⟩, ⟨some 110, .mov (.tmp 111), none⟩]) (.cond (.tmp 110) (.ops [⟨some 112, .fadr 1 (.tmp 3), none⟩, ⟨some 113, .load 1 false (.tmp 112), none⟩, ⟨some 114, .call 56 [(.tmp 2), (.tmp 113), (.const (.int .i64 3))], none⟩]) .skip)))))) .skip))) (.seq (.seq (.ops [⟨some 116, .bin .eql (.tmp 20) (.const (.int .i64 5)), none⟩, ⟨some 115, .mov (.tmp 116), none⟩]) (.cond (.tmp 115) .skip (.seq (.ops [⟨some 117, .bin .eql (.tmp 20) (.const (.int .i64 6)), none⟩, ⟨some 115, .mov (.tmp 117), none⟩]) (.cond (.tmp 115) .skip (.ops [⟨some 118, .bin .eql (.tmp 20) (.const (.int .i64 7)), none⟩, ⟨some 115, .mov (.tmp 118), none⟩]))))) (.cond (.tmp 115) (.seq (.ops [⟨some 119, .fadr 1 (.tmp 3), none⟩, ⟨some 120, .load 1 false (.tmp 119), none⟩, ⟨some 121, .fadr 4 (.tmp 2), none⟩, ⟨some 122, .load 1 false (.tmp 121), none⟩, ⟨some 123, .len (.tmp 122), none⟩, ⟨some 124, .bin .sub (.tmp 123) (.const (.int .i64 1)), none⟩, ⟨some 125, .call 40 [(.tmp 120), (.const (.int .i64 0)), (.tmp 124)], none⟩, ⟨some 7, .mov (.tmp 125), none⟩]) (.seq (.ops [⟨some 126, .mov (.tmp 7), none⟩]) (.cond (.tmp 126) (.seq (.ops [⟨some 127, .fadr 4 (.tmp 2), none⟩, ⟨some 128, .load 1 false (.tmp 127), none⟩, ⟨some 129, .fadr 1 (.tmp 3), none⟩, ⟨some 130, .load 1 false (.tmp 129), none⟩, ⟨some 131, .iadr 3 (.tmp 128) (.tmp 130), none⟩, ⟨some 132, .load 3 true (.tmp 131), none⟩, ⟨some 10, .new [(.int .i64 0), (.int .i64 0), (.int .i64 0)], none⟩, ⟨none, .store 3 (.tmp 10) (.tmp 132), none⟩]) (.seq (.seq (.ops [⟨some 133, .fadr 0 (.tmp 3), none⟩, ⟨some 134, .load 1 false (.tmp 133), none⟩, ⟨some 135, .bin .eql (.tmp 134) (.const (.int .i64 7)), none⟩]) (.cond (.tmp 135) (.seq (.ops [⟨some 136, .fadr 4 (.tmp 2), none⟩, ⟨some 137, .load 1 false (.tmp 136), none⟩, ⟨some 138, .load 3 true (.tmp 10), none⟩, ⟨some 139, .blds .sig 1 [(0, 3, (.tmp 138))], none⟩, ⟨some 140, .app .sig 24 (.tmp 137) (.tmp 139), none⟩, ⟨some 141, .fadr 4 (.tmp 2), none⟩, ⟨none, .store 1 (.tmp 141) (.tmp 140), none⟩]) (.exit 0)) .skip)) (.seq (.ops [⟨some 142, .fadr 4 (.tmp 2), none⟩, ⟨some 143, .load 1 false (.tmp 142), none⟩, ⟨some 144, .fadr 1 (.tmp 3), none⟩, ⟨some 145, .load 1 false (.tmp 144), none⟩, ⟨some 146, .fadr 1 (.tmp 3), none⟩, ⟨some 147, .load 1 false (.tmp 146), none⟩, ⟨some 148, .bin .add (.tmp 147) (.const (.int .i64 1)), none⟩, ⟨some 149, .call 57 [(.tmp 143), (.tmp 145), (.tmp 148)], none⟩, ⟨some 150, .fadr 4 (.tmp 2), none⟩, ⟨none, .store 1 (.tmp 150) (.tmp 149), none⟩]) (.seq (.ops [⟨some 151, .fadr 0 (.tmp 3), none⟩, ⟨some 152, .load 1 false (.tmp 151), none⟩, ⟨some 153, .bin .eql (.tmp 152) (.const (.int .i64 5)), none⟩]) (.cond (.tmp 153) (.ops [⟨some 154, .load 3 true (.tmp 10), none⟩, ⟨some 155, .call 58 [(.tmp 2), (.tmp 154)], none⟩]) .skip))))) .skip))) .skip)))))))))))) (.seq (.seq (.ops [⟨some 156, .mov (.tmp 7), none⟩, ⟨some 157, .una .not (.tmp 156), none⟩, ⟨some 158, .mov (.tmp 157), none⟩, ⟨some 159, .fadr 4 (.tmp 2), some (158, false)⟩, ⟨some 160, .load 1 false (.tmp 159), some (158, false)⟩, ⟨some 161, .len (.tmp 160), some (158, false)⟩, ⟨some 162, .bin .gtr (.tmp 161) (.const (.int .i64 40)), some (158, false)⟩, ⟨some 163, .pick (.tmp 158) (.const (.bool true)) (.tmp 162), none⟩]) (.cond (.tmp 163) (.seq (.ops [⟨some 164, .load 5 true (.tmp 6), none⟩, ⟨none, .store 5 (.tmp 4) (.tmp 164), none⟩, ⟨some 5, .mov (.const (.bool false)), none⟩]) .ret) .skip)) (.seq (.ops [⟨some 165, .load 5 true (.tmp 2), none⟩, ⟨none, .store 5 (.tmp 4) (.tmp 165), none⟩, ⟨some 5, .mov (.const (.bool true)), none⟩]) .ret))))))))
@[reducible] def rv23 : List RV := [.cell 4 5 true, .tmp 5]
theorem low23 : lowC Try.prog tau Try.f23.ntmps (Try.f23.body.getD .skip) = some (erase ic23) := by kernel_rfl
theorem res23 : lowR Try.prog Try.f23.results.toList = some rv23 := by kernel_rfl
theorem bod23 : Try.f23.body = some (Try.f23.body.getD .skip) := by kernel_rfl
theorem cal23 : callable Try.prog 23 = true := by kernel_rfl

end Go.Proofs.YtiakjdcognckpaaE

/-! DoEvent, of the reference and of the program. -/
namespace Go.Proofs.YtiakjdcognckpaaE
open Go Go.RowKit
set_option linter.unusedSimpArgs false
set_option linter.unusedVariables false
set_option maxRecDepth 20000
set_option maxHeartbeats 4000000

def doEv (d : Du) (k p : Int) : Du × Bool := if (duOk d && evOk d k p && decide ((evD d k p).q.length ≤ 40)) = true then (evD d k p, true) else (d, false)
theorem doEv_yes {d : Du} {k p : Int} (h1 : duOk d = true) (h2 : evOk d k p = true) (h3 : (evD d k p).q.length ≤ 40) : doEv d k p = (evD d k p, true) := by
  unfold doEv; rw [h1, h2, decide_eq_true h3]; rfl
theorem doEv_no1 {d : Du} {k p : Int} (h1 : duOk d = false) : doEv d k p = (d, false) := by
  unfold doEv; rw [h1]; rfl
theorem doEv_no2 {d : Du} {k p : Int} (h1 : evOk d k p = false) : doEv d k p = (d, false) := by
  unfold doEv; rw [h1, Bool.and_false, Bool.false_and]; rfl
theorem doEv_no3 {d : Du} {k p : Int} (h1 : ¬ (evD d k p).q.length ≤ 40) : doEv d k p = (d, false) := by
  unfold doEv; rw [decide_eq_false h1, Bool.and_false]; rfl
theorem evMv_no {d : Du} {k p : Int} (h : evMv d k p = false) : evD d k p = d := by
  by_cases ho : evOk d k p = false
  · unfold evD; rw [if_pos ho]
  · have ho' : evOk d k p = true := by simpa using ho
    unfold evMv at h
    rw [ho'] at h
    by_cases h4 : k = 4
    · subst h4
      unfold evD
      rw [if_neg ho, if_neg (by decide), if_neg (by decide), if_neg (by decide), if_pos rfl]
      exact timer_no (by simpa using h)
    · rw [if_neg h4] at h; cases h
def spDoEv : Spec := ⟨fun _ _ => [], fun args objs K => match args, objs with
  | [.agg [.v (.int .i64 a), .v (.int .i64 x), .v (.int .i64 b), .v (.int .i64 y), .rs .sig q], .agg [.v (.int .i64 k), .v (.int .i64 p)]], [] =>
      q.length ≤ 1099511627776 ∧ K (.tup [duA (doEv ⟨a, x, b, y, q⟩ k p).1, .v (.bool (doEv ⟨a, x, b, y, q⟩ k p).2)]) (duL (doEv ⟨a, x, b, y, q⟩ k p).1) 1
  | _, _ => False, false⟩
theorem spDoEv_t {L : Hp} {a : List AVal} : Spec.take spDoEv L a = [] := id rfl
theorem spDoEv_k : Spec.keep spDoEv = false := id rfl
theorem spDoEv_f {a} {x} {b} {y} {q} {k} {p} {K : AVal → Hp → Nat → Prop} : Spec.f spDoEv ([.agg [.v (.int .i64 a), .v (.int .i64 x), .v (.int .i64 b), .v (.int .i64 y), .rs .sig q], .agg [.v (.int .i64 k), .v (.int .i64 p)]]) ([]) K = (q.length ≤ 1099511627776 ∧ K (.tup [duA (doEv ⟨a, x, b, y, q⟩ k p).1, .v (.bool (doEv ⟨a, x, b, y, q⟩ k p).2)]) (duL (doEv ⟨a, x, b, y, q⟩ k p).1) 1) := id rfl
theorem valid21 : Valid Try.prog 21 spDoEv := by
  refine validI (Γ := lk [(43, spToDu), (32, spDuOk), (55, spDo)]) Try.func21 bod21 low21 res21 (good_of ⟨⟨cal43, valid43⟩, ⟨cal32, valid32⟩, ⟨cal55, valid55⟩, trivial⟩) ?_
  intro E args objs K h hE hG hP
  simp only [spDoEv] at h
  split at h
  · refine ⟨by simp [Try.ntmps21], ?_⟩
    rename_i a x b y q k p
    obtain ⟨b1, h⟩ := h
    cases hd : duOk ⟨a, x, b, y, q⟩
    · rw [doEv_no1 hd] at h
      simp (config := { maxSteps := 2000000 }) only [go_sem, hG, hP, Nat.reduceEqDiff, ↓reduceIte, reduceCtorEq, Nat.reduceAdd, Nat.reduceSub, Nat.reduceMul, Nat.reduceLT, Nat.reduceLeDiff, Int.reduceAdd, Int.reduceSub, Int.reduceMul, Int.reduceLT, Int.reduceLE, Int.reduceEq, Int.reduceNeg, Int.reduceNe, Int.reduceGE, Int.reduceGT, Nat.reduceBEq, Int.reduceToNat,  spToDu_f, spToDu_t, spToDu_k, spDuOk_f, spDuOk_t, spDuOk_k, spDo_f, spDo_t, spDo_k, takeA5_eq, hd]
      repeat (refine And.intro (by first | omega | (simp; done) | (simp; omega) | (unfold appRoom; omega)) ?_)
      refine ⟨_, _, _, ?_, h⟩
      simp only [duA_eq, duL_eq]
      simp (config := { maxSteps := 2000000 }) only [go_sem, hG, hP, Nat.reduceEqDiff, ↓reduceIte, reduceCtorEq, Nat.reduceAdd, Nat.reduceSub, Nat.reduceMul, Nat.reduceLT, Nat.reduceLeDiff, Int.reduceAdd, Int.reduceSub, Int.reduceMul, Int.reduceLT, Int.reduceLE, Int.reduceEq, Int.reduceNeg, Int.reduceNe, Int.reduceGE, Int.reduceGT, Nat.reduceBEq, Int.reduceToNat]
      all_goals simp
    · cases hm : evMv ⟨a, x, b, y, q⟩ k p
      · have hl := (duOk_head hd).2
        dsimp only at hl
        have hD := evMv_no hm
        cases ho : evOk ⟨a, x, b, y, q⟩ k p
        · rw [doEv_no2 ho] at h
          simp (config := { maxSteps := 2000000 }) only [go_sem, hG, hP, Nat.reduceEqDiff, ↓reduceIte, reduceCtorEq, Nat.reduceAdd, Nat.reduceSub, Nat.reduceMul, Nat.reduceLT, Nat.reduceLeDiff, Int.reduceAdd, Int.reduceSub, Int.reduceMul, Int.reduceLT, Int.reduceLE, Int.reduceEq, Int.reduceNeg, Int.reduceNe, Int.reduceGE, Int.reduceGT, Nat.reduceBEq, Int.reduceToNat,  spToDu_f, spToDu_t, spToDu_k, spDuOk_f, spDuOk_t, spDuOk_k, spDo_f, spDo_t, spDo_k, takeA5_eq, hd, ↓evK_eq, hm, ho]
          repeat' (first | (refine And.intro ?_ ?_) | (with_reducible intro _))
          all_goals first | omega | (refine ⟨_, _, _, ?_, h⟩; simp only [duA_eq, duL_eq]; simp (config := { maxSteps := 2000000 }) only [go_sem, hG, hP, Nat.reduceEqDiff, ↓reduceIte, reduceCtorEq, Nat.reduceAdd, Nat.reduceSub, Nat.reduceMul, Nat.reduceLT, Nat.reduceLeDiff, Int.reduceAdd, Int.reduceSub, Int.reduceMul, Int.reduceLT, Int.reduceLE, Int.reduceEq, Int.reduceNeg, Int.reduceNe, Int.reduceGE, Int.reduceGT, Nat.reduceBEq, Int.reduceToNat]; all_goals (first | (simp; done) | omega))
        · rw [doEv_yes hd ho (by rw [hD]; exact hl), hD] at h
          simp (config := { maxSteps := 2000000 }) only [go_sem, hG, hP, Nat.reduceEqDiff, ↓reduceIte, reduceCtorEq, Nat.reduceAdd, Nat.reduceSub, Nat.reduceMul, Nat.reduceLT, Nat.reduceLeDiff, Int.reduceAdd, Int.reduceSub, Int.reduceMul, Int.reduceLT, Int.reduceLE, Int.reduceEq, Int.reduceNeg, Int.reduceNe, Int.reduceGE, Int.reduceGT, Nat.reduceBEq, Int.reduceToNat,  spToDu_f, spToDu_t, spToDu_k, spDuOk_f, spDuOk_t, spDuOk_k, spDo_f, spDo_t, spDo_k, takeA5_eq, hd, ↓evK_eq, hm, ho]
          repeat' (first | (refine And.intro ?_ ?_) | (with_reducible intro _))
          all_goals first | omega | (refine ⟨_, _, _, ?_, h⟩; simp only [duA_eq, duL_eq]; simp (config := { maxSteps := 2000000 }) only [go_sem, hG, hP, Nat.reduceEqDiff, ↓reduceIte, reduceCtorEq, Nat.reduceAdd, Nat.reduceSub, Nat.reduceMul, Nat.reduceLT, Nat.reduceLeDiff, Int.reduceAdd, Int.reduceSub, Int.reduceMul, Int.reduceLT, Int.reduceLE, Int.reduceEq, Int.reduceNeg, Int.reduceNe, Int.reduceGE, Int.reduceGT, Nat.reduceBEq, Int.reduceToNat]; all_goals (first | (simp; done) | omega))
      · have ho := evOk_mv hm
        have hl := (duOk_head hd).2
        dsimp only at hl
        rcases hv : evD ⟨a, x, b, y, q⟩ k p with ⟨a', x', b', y', q'⟩
        by_cases hq : q'.length ≤ 40
        · rw [doEv_yes hd ho (by rw [hv]; exact hq), hv] at h
          simp (config := { maxSteps := 2000000 }) only [go_sem, hG, hP, Nat.reduceEqDiff, ↓reduceIte, reduceCtorEq, Nat.reduceAdd, Nat.reduceSub, Nat.reduceMul, Nat.reduceLT, Nat.reduceLeDiff, Int.reduceAdd, Int.reduceSub, Int.reduceMul, Int.reduceLT, Int.reduceLE, Int.reduceEq, Int.reduceNeg, Int.reduceNe, Int.reduceGE, Int.reduceGT, Nat.reduceBEq, Int.reduceToNat,  spToDu_f, spToDu_t, spToDu_k, spDuOk_f, spDuOk_t, spDuOk_k, spDo_f, spDo_t, spDo_k, takeA5_eq, hd, ↓evK_eq, hm, ho, hv]
          repeat' (first | (refine And.intro ?_ ?_) | (with_reducible intro _))
          all_goals first | omega | (refine ⟨_, _, _, ?_, h⟩; simp only [duA_eq, duL_eq]; simp (config := { maxSteps := 2000000 }) only [go_sem, hG, hP, Nat.reduceEqDiff, ↓reduceIte, reduceCtorEq, Nat.reduceAdd, Nat.reduceSub, Nat.reduceMul, Nat.reduceLT, Nat.reduceLeDiff, Int.reduceAdd, Int.reduceSub, Int.reduceMul, Int.reduceLT, Int.reduceLE, Int.reduceEq, Int.reduceNeg, Int.reduceNe, Int.reduceGE, Int.reduceGT, Nat.reduceBEq, Int.reduceToNat]; all_goals (first | (simp; done) | omega))
        · rw [doEv_no3 (by rw [hv]; exact hq)] at h
          simp (config := { maxSteps := 2000000 }) only [go_sem, hG, hP, Nat.reduceEqDiff, ↓reduceIte, reduceCtorEq, Nat.reduceAdd, Nat.reduceSub, Nat.reduceMul, Nat.reduceLT, Nat.reduceLeDiff, Int.reduceAdd, Int.reduceSub, Int.reduceMul, Int.reduceLT, Int.reduceLE, Int.reduceEq, Int.reduceNeg, Int.reduceNe, Int.reduceGE, Int.reduceGT, Nat.reduceBEq, Int.reduceToNat,  spToDu_f, spToDu_t, spToDu_k, spDuOk_f, spDuOk_t, spDuOk_k, spDo_f, spDo_t, spDo_k, takeA5_eq, hd, ↓evK_eq, hm, ho, hv]
          repeat' (first | (refine And.intro ?_ ?_) | (with_reducible intro _))
          all_goals first | omega | (refine ⟨_, _, _, ?_, h⟩; simp only [duA_eq, duL_eq]; simp (config := { maxSteps := 2000000 }) only [go_sem, hG, hP, Nat.reduceEqDiff, ↓reduceIte, reduceCtorEq, Nat.reduceAdd, Nat.reduceSub, Nat.reduceMul, Nat.reduceLT, Nat.reduceLeDiff, Int.reduceAdd, Int.reduceSub, Int.reduceMul, Int.reduceLT, Int.reduceLE, Int.reduceEq, Int.reduceNeg, Int.reduceNe, Int.reduceGE, Int.reduceGT, Nat.reduceBEq, Int.reduceToNat]; all_goals (first | (simp; done) | omega))
  · exact h.elim
end Go.Proofs.YtiakjdcognckpaaE

/-! DoEvent, of the program. -/
namespace Go.Proofs.YtiakjdcognckpaaE
open Go Go.RowKit
set_option linter.unusedSimpArgs false
set_option linter.unusedVariables false
set_option maxRecDepth 20000
set_option maxHeartbeats 4000000

theorem valid23 : Valid Try.prog 23 spDoEv := by
  refine validI (Γ := lk [(49, spToDu), (48, spDuOk), (40, spIn), (56, spSend), (57, spDelete), (58, spArrive)]) Try.func23 bod23 low23 res23 (good_of ⟨⟨cal49, valid49⟩, ⟨cal48, valid48⟩, ⟨cal40, valid40⟩, ⟨cal56, valid56⟩, ⟨cal57, valid57⟩, ⟨cal58, valid58⟩, trivial⟩) ?_
  intro E args objs K h hE hG hP
  simp only [spDoEv] at h
  split at h
  · refine ⟨by simp [Try.ntmps23], ?_⟩
    rename_i a x b y q k p
    obtain ⟨b1, h⟩ := h
    cases hd : duOk ⟨a, x, b, y, q⟩
    · rw [doEv_no1 hd] at h
      simp (config := { maxSteps := 2000000 }) only [go_sem, hG, hP, Nat.reduceEqDiff, ↓reduceIte, reduceCtorEq, Nat.reduceAdd, Nat.reduceSub, Nat.reduceMul, Nat.reduceLT, Nat.reduceLeDiff, Int.reduceAdd, Int.reduceSub, Int.reduceMul, Int.reduceLT, Int.reduceLE, Int.reduceEq, Int.reduceNeg, Int.reduceNe, Int.reduceGE, Int.reduceGT, Nat.reduceBEq, Int.reduceToNat,  spToDu_f, spToDu_t, spToDu_k, spDuOk_f, spDuOk_t, spDuOk_k, spIn_f, spIn_t, spIn_k, spSend_f, spSend_t, spSend_k, spDelete_f, spDelete_t, spDelete_k, spArrive_f, spArrive_t, spArrive_k, takeBoxH_eq, boxTk_eq, take1_eq, callOf_0, callOf_1, ↓boxK_eq, hd]
      repeat' (first | (refine And.intro ?_ ?_) | (with_reducible intro _))
      all_goals first | omega | (unfold appRoom; omega) | (refine ⟨_, _, _, ?_, h⟩; simp only [duA_eq, duL_eq]; simp (config := { maxSteps := 2000000 }) only [go_sem, hG, hP, Nat.reduceEqDiff, ↓reduceIte, reduceCtorEq, Nat.reduceAdd, Nat.reduceSub, Nat.reduceMul, Nat.reduceLT, Nat.reduceLeDiff, Int.reduceAdd, Int.reduceSub, Int.reduceMul, Int.reduceLT, Int.reduceLE, Int.reduceEq, Int.reduceNeg, Int.reduceNe, Int.reduceGE, Int.reduceGT, Nat.reduceBEq, Int.reduceToNat]; all_goals (first | (simp; done) | omega))
    · obtain ⟨hH, hl⟩ := duOk_head hd
      unfold headP at hH
      dsimp only at hH hl
      have hw : wr .i64 ((q.length : Int) - 1) = (q.length : Int) - 1 := wrap_id (by omega) (by omega)
      rcases ev_cases k with rfl | rfl | rfl | rfl | hk | ⟨k1, k2, k3, k4, k5, k6, k7⟩
      · have hwx : wr .i64 (x + 1) = x + 1 := wrap_id (by omega) (by omega)
        by_cases hc : p = 0 ∧ a = 0 ∧ x < 1000
        · have hok : evOk ⟨a, x, b, y, q⟩ 1 p = true := by unfold evOk; rw [if_pos rfl]; exact decide_eq_true hc
          have hD : evD ⟨a, x, b, y, q⟩ 1 p = ⟨1, x + 1, b, y, q ++ [⟨1, 1, x + 1⟩]⟩ := by unfold evD; rw [hok, if_neg (by simp), if_pos rfl]
          by_cases hq : q.length + 1 ≤ 40
          · rw [doEv_yes hd hok (by rw [hD]; simp; omega), hD] at h
            obtain ⟨rfl, rfl, hx⟩ := hc
            simp (config := { maxSteps := 2000000 }) only [go_sem, hG, hP, Nat.reduceEqDiff, ↓reduceIte, reduceCtorEq, Nat.reduceAdd, Nat.reduceSub, Nat.reduceMul, Nat.reduceLT, Nat.reduceLeDiff, Int.reduceAdd, Int.reduceSub, Int.reduceMul, Int.reduceLT, Int.reduceLE, Int.reduceEq, Int.reduceNeg, Int.reduceNe, Int.reduceGE, Int.reduceGT, Nat.reduceBEq, Int.reduceToNat,  spToDu_f, spToDu_t, spToDu_k, spDuOk_f, spDuOk_t, spDuOk_k, spIn_f, spIn_t, spIn_k, spSend_f, spSend_t, spSend_k, spDelete_f, spDelete_t, spDelete_k, spArrive_f, spArrive_t, spArrive_k, takeBoxH_eq, boxTk_eq, take1_eq, callOf_0, callOf_1, ↓boxK_eq, hd, hwx]
            repeat' (first | (refine And.intro ?_ ?_) | (with_reducible intro _))
            all_goals first | omega | (unfold appRoom; omega) | (refine ⟨_, _, _, ?_, h⟩; simp only [duA_eq, duL_eq]; simp (config := { maxSteps := 2000000 }) only [go_sem, hG, hP, Nat.reduceEqDiff, ↓reduceIte, reduceCtorEq, Nat.reduceAdd, Nat.reduceSub, Nat.reduceMul, Nat.reduceLT, Nat.reduceLeDiff, Int.reduceAdd, Int.reduceSub, Int.reduceMul, Int.reduceLT, Int.reduceLE, Int.reduceEq, Int.reduceNeg, Int.reduceNe, Int.reduceGE, Int.reduceGT, Nat.reduceBEq, Int.reduceToNat]; all_goals (first | (simp; done) | omega))
          · rw [doEv_no3 (by rw [hD]; simp; omega)] at h
            obtain ⟨rfl, rfl, hx⟩ := hc
            simp (config := { maxSteps := 2000000 }) only [go_sem, hG, hP, Nat.reduceEqDiff, ↓reduceIte, reduceCtorEq, Nat.reduceAdd, Nat.reduceSub, Nat.reduceMul, Nat.reduceLT, Nat.reduceLeDiff, Int.reduceAdd, Int.reduceSub, Int.reduceMul, Int.reduceLT, Int.reduceLE, Int.reduceEq, Int.reduceNeg, Int.reduceNe, Int.reduceGE, Int.reduceGT, Nat.reduceBEq, Int.reduceToNat,  spToDu_f, spToDu_t, spToDu_k, spDuOk_f, spDuOk_t, spDuOk_k, spIn_f, spIn_t, spIn_k, spSend_f, spSend_t, spSend_k, spDelete_f, spDelete_t, spDelete_k, spArrive_f, spArrive_t, spArrive_k, takeBoxH_eq, boxTk_eq, take1_eq, callOf_0, callOf_1, ↓boxK_eq, hd, hwx]
            repeat' (first | (refine And.intro ?_ ?_) | (with_reducible intro _))
            all_goals first | omega | (unfold appRoom; omega) | (refine ⟨_, _, _, ?_, h⟩; simp only [duA_eq, duL_eq]; simp (config := { maxSteps := 2000000 }) only [go_sem, hG, hP, Nat.reduceEqDiff, ↓reduceIte, reduceCtorEq, Nat.reduceAdd, Nat.reduceSub, Nat.reduceMul, Nat.reduceLT, Nat.reduceLeDiff, Int.reduceAdd, Int.reduceSub, Int.reduceMul, Int.reduceLT, Int.reduceLE, Int.reduceEq, Int.reduceNeg, Int.reduceNe, Int.reduceGE, Int.reduceGT, Nat.reduceBEq, Int.reduceToNat]; all_goals (first | (simp; done) | omega))
        · have hok : evOk ⟨a, x, b, y, q⟩ 1 p = false := by unfold evOk; rw [if_pos rfl]; exact decide_eq_false hc
          rw [doEv_no2 hok] at h
          simp (config := { maxSteps := 2000000 }) only [go_sem, hG, hP, Nat.reduceEqDiff, ↓reduceIte, reduceCtorEq, Nat.reduceAdd, Nat.reduceSub, Nat.reduceMul, Nat.reduceLT, Nat.reduceLeDiff, Int.reduceAdd, Int.reduceSub, Int.reduceMul, Int.reduceLT, Int.reduceLE, Int.reduceEq, Int.reduceNeg, Int.reduceNe, Int.reduceGE, Int.reduceGT, Nat.reduceBEq, Int.reduceToNat,  spToDu_f, spToDu_t, spToDu_k, spDuOk_f, spDuOk_t, spDuOk_k, spIn_f, spIn_t, spIn_k, spSend_f, spSend_t, spSend_k, spDelete_f, spDelete_t, spDelete_k, spArrive_f, spArrive_t, spArrive_k, takeBoxH_eq, boxTk_eq, take1_eq, callOf_0, callOf_1, ↓boxK_eq, hd, hwx]
          repeat' (first | (refine And.intro ?_ ?_) | (with_reducible intro _))
          all_goals first | omega | (unfold appRoom; omega) | (refine ⟨_, _, _, ?_, h⟩; simp only [duA_eq, duL_eq]; simp (config := { maxSteps := 2000000 }) only [go_sem, hG, hP, Nat.reduceEqDiff, ↓reduceIte, reduceCtorEq, Nat.reduceAdd, Nat.reduceSub, Nat.reduceMul, Nat.reduceLT, Nat.reduceLeDiff, Int.reduceAdd, Int.reduceSub, Int.reduceMul, Int.reduceLT, Int.reduceLE, Int.reduceEq, Int.reduceNeg, Int.reduceNe, Int.reduceGE, Int.reduceGT, Nat.reduceBEq, Int.reduceToNat]; all_goals (first | (simp; done) | omega))
      · by_cases hc : p = 0 ∧ b = 2
        · have hok : evOk ⟨a, x, b, y, q⟩ 2 p = true := by unfold evOk; rw [if_neg (by decide), if_pos rfl]; exact decide_eq_true hc
          have hD : evD ⟨a, x, b, y, q⟩ 2 p = ⟨a, x, 3, y, q ++ [⟨0, 2, y⟩]⟩ := by unfold evD; rw [hok, if_neg (by simp), if_neg (by decide), if_pos rfl]
          by_cases hq : q.length + 1 ≤ 40
          · rw [doEv_yes hd hok (by rw [hD]; simp; omega), hD] at h
            obtain ⟨rfl, rfl⟩ := hc
            simp (config := { maxSteps := 2000000 }) only [go_sem, hG, hP, Nat.reduceEqDiff, ↓reduceIte, reduceCtorEq, Nat.reduceAdd, Nat.reduceSub, Nat.reduceMul, Nat.reduceLT, Nat.reduceLeDiff, Int.reduceAdd, Int.reduceSub, Int.reduceMul, Int.reduceLT, Int.reduceLE, Int.reduceEq, Int.reduceNeg, Int.reduceNe, Int.reduceGE, Int.reduceGT, Nat.reduceBEq, Int.reduceToNat,  spToDu_f, spToDu_t, spToDu_k, spDuOk_f, spDuOk_t, spDuOk_k, spIn_f, spIn_t, spIn_k, spSend_f, spSend_t, spSend_k, spDelete_f, spDelete_t, spDelete_k, spArrive_f, spArrive_t, spArrive_k, takeBoxH_eq, boxTk_eq, take1_eq, callOf_0, callOf_1, ↓boxK_eq, hd]
            repeat' (first | (refine And.intro ?_ ?_) | (with_reducible intro _))
            all_goals first | omega | (unfold appRoom; omega) | (refine ⟨_, _, _, ?_, h⟩; simp only [duA_eq, duL_eq]; simp (config := { maxSteps := 2000000 }) only [go_sem, hG, hP, Nat.reduceEqDiff, ↓reduceIte, reduceCtorEq, Nat.reduceAdd, Nat.reduceSub, Nat.reduceMul, Nat.reduceLT, Nat.reduceLeDiff, Int.reduceAdd, Int.reduceSub, Int.reduceMul, Int.reduceLT, Int.reduceLE, Int.reduceEq, Int.reduceNeg, Int.reduceNe, Int.reduceGE, Int.reduceGT, Nat.reduceBEq, Int.reduceToNat]; all_goals (first | (simp; done) | omega))
          · rw [doEv_no3 (by rw [hD]; simp; omega)] at h
            obtain ⟨rfl, rfl⟩ := hc
            simp (config := { maxSteps := 2000000 }) only [go_sem, hG, hP, Nat.reduceEqDiff, ↓reduceIte, reduceCtorEq, Nat.reduceAdd, Nat.reduceSub, Nat.reduceMul, Nat.reduceLT, Nat.reduceLeDiff, Int.reduceAdd, Int.reduceSub, Int.reduceMul, Int.reduceLT, Int.reduceLE, Int.reduceEq, Int.reduceNeg, Int.reduceNe, Int.reduceGE, Int.reduceGT, Nat.reduceBEq, Int.reduceToNat,  spToDu_f, spToDu_t, spToDu_k, spDuOk_f, spDuOk_t, spDuOk_k, spIn_f, spIn_t, spIn_k, spSend_f, spSend_t, spSend_k, spDelete_f, spDelete_t, spDelete_k, spArrive_f, spArrive_t, spArrive_k, takeBoxH_eq, boxTk_eq, take1_eq, callOf_0, callOf_1, ↓boxK_eq, hd]
            repeat' (first | (refine And.intro ?_ ?_) | (with_reducible intro _))
            all_goals first | omega | (unfold appRoom; omega) | (refine ⟨_, _, _, ?_, h⟩; simp only [duA_eq, duL_eq]; simp (config := { maxSteps := 2000000 }) only [go_sem, hG, hP, Nat.reduceEqDiff, ↓reduceIte, reduceCtorEq, Nat.reduceAdd, Nat.reduceSub, Nat.reduceMul, Nat.reduceLT, Nat.reduceLeDiff, Int.reduceAdd, Int.reduceSub, Int.reduceMul, Int.reduceLT, Int.reduceLE, Int.reduceEq, Int.reduceNeg, Int.reduceNe, Int.reduceGE, Int.reduceGT, Nat.reduceBEq, Int.reduceToNat]; all_goals (first | (simp; done) | omega))
        · have hok : evOk ⟨a, x, b, y, q⟩ 2 p = false := by unfold evOk; rw [if_neg (by decide), if_pos rfl]; exact decide_eq_false hc
          rw [doEv_no2 hok] at h
          simp (config := { maxSteps := 2000000 }) only [go_sem, hG, hP, Nat.reduceEqDiff, ↓reduceIte, reduceCtorEq, Nat.reduceAdd, Nat.reduceSub, Nat.reduceMul, Nat.reduceLT, Nat.reduceLeDiff, Int.reduceAdd, Int.reduceSub, Int.reduceMul, Int.reduceLT, Int.reduceLE, Int.reduceEq, Int.reduceNeg, Int.reduceNe, Int.reduceGE, Int.reduceGT, Nat.reduceBEq, Int.reduceToNat,  spToDu_f, spToDu_t, spToDu_k, spDuOk_f, spDuOk_t, spDuOk_k, spIn_f, spIn_t, spIn_k, spSend_f, spSend_t, spSend_k, spDelete_f, spDelete_t, spDelete_k, spArrive_f, spArrive_t, spArrive_k, takeBoxH_eq, boxTk_eq, take1_eq, callOf_0, callOf_1, ↓boxK_eq, hd]
          repeat' (first | (refine And.intro ?_ ?_) | (with_reducible intro _))
          all_goals first | omega | (unfold appRoom; omega) | (refine ⟨_, _, _, ?_, h⟩; simp only [duA_eq, duL_eq]; simp (config := { maxSteps := 2000000 }) only [go_sem, hG, hP, Nat.reduceEqDiff, ↓reduceIte, reduceCtorEq, Nat.reduceAdd, Nat.reduceSub, Nat.reduceMul, Nat.reduceLT, Nat.reduceLeDiff, Int.reduceAdd, Int.reduceSub, Int.reduceMul, Int.reduceLT, Int.reduceLE, Int.reduceEq, Int.reduceNeg, Int.reduceNe, Int.reduceGE, Int.reduceGT, Nat.reduceBEq, Int.reduceToNat]; all_goals (first | (simp; done) | omega))
      · rcases side_cases p with ⟨hs, hs0, hs1⟩ | rfl | rfl
        · have hok : evOk ⟨a, x, b, y, q⟩ 3 p = false := by unfold evOk; rw [if_neg (by decide), if_neg (by decide), if_pos rfl, decide_eq_false (by omega)]; rfl
          rw [doEv_no2 hok] at h
          simp (config := { maxSteps := 2000000 }) only [go_sem, hG, hP, Nat.reduceEqDiff, ↓reduceIte, reduceCtorEq, Nat.reduceAdd, Nat.reduceSub, Nat.reduceMul, Nat.reduceLT, Nat.reduceLeDiff, Int.reduceAdd, Int.reduceSub, Int.reduceMul, Int.reduceLT, Int.reduceLE, Int.reduceEq, Int.reduceNeg, Int.reduceNe, Int.reduceGE, Int.reduceGT, Nat.reduceBEq, Int.reduceToNat,  spToDu_f, spToDu_t, spToDu_k, spDuOk_f, spDuOk_t, spDuOk_k, spIn_f, spIn_t, spIn_k, spSend_f, spSend_t, spSend_k, spDelete_f, spDelete_t, spDelete_k, spArrive_f, spArrive_t, spArrive_k, takeBoxH_eq, boxTk_eq, take1_eq, callOf_0, callOf_1, ↓boxK_eq, hd, hs]
          repeat' (first | (refine And.intro ?_ ?_) | (with_reducible intro _))
          all_goals first | omega | (unfold appRoom; omega) | (refine ⟨_, _, _, ?_, h⟩; simp only [duA_eq, duL_eq]; simp (config := { maxSteps := 2000000 }) only [go_sem, hG, hP, Nat.reduceEqDiff, ↓reduceIte, reduceCtorEq, Nat.reduceAdd, Nat.reduceSub, Nat.reduceMul, Nat.reduceLT, Nat.reduceLeDiff, Int.reduceAdd, Int.reduceSub, Int.reduceMul, Int.reduceLT, Int.reduceLE, Int.reduceEq, Int.reduceNeg, Int.reduceNe, Int.reduceGE, Int.reduceGT, Nat.reduceBEq, Int.reduceToNat]; all_goals (first | (simp; done) | omega))
        · by_cases hc : 1 ≤ a ∧ a ≤ 3
          · have hcl : clearOk ⟨a, x, b, y, q⟩ 0 = true := by unfold clearOk; rw [if_pos rfl]; exact decide_eq_true (by dsimp only; omega)
            have hok : evOk ⟨a, x, b, y, q⟩ 3 0 = true := by unfold evOk; rw [if_neg (by decide), if_neg (by decide), if_pos rfl, hcl]; rfl
            have hD : evD ⟨a, x, b, y, q⟩ 3 0 = ⟨4, x, b, y, q ++ [⟨1, 3, x⟩]⟩ := by unfold evD; rw [hok, if_neg (by simp), if_neg (by decide), if_neg (by decide), if_pos rfl]; rfl
            by_cases hq : q.length + 1 ≤ 40
            · rw [doEv_yes hd hok (by rw [hD]; simp; omega), hD] at h
              have hce := eq_true hc
              simp (config := { maxSteps := 2000000 }) only [go_sem, hG, hP, Nat.reduceEqDiff, ↓reduceIte, reduceCtorEq, Nat.reduceAdd, Nat.reduceSub, Nat.reduceMul, Nat.reduceLT, Nat.reduceLeDiff, Int.reduceAdd, Int.reduceSub, Int.reduceMul, Int.reduceLT, Int.reduceLE, Int.reduceEq, Int.reduceNeg, Int.reduceNe, Int.reduceGE, Int.reduceGT, Nat.reduceBEq, Int.reduceToNat,  spToDu_f, spToDu_t, spToDu_k, spDuOk_f, spDuOk_t, spDuOk_k, spIn_f, spIn_t, spIn_k, spSend_f, spSend_t, spSend_k, spDelete_f, spDelete_t, spDelete_k, spArrive_f, spArrive_t, spArrive_k, takeBoxH_eq, boxTk_eq, take1_eq, callOf_0, callOf_1, ↓boxK_eq, hd, hce]
              repeat' (first | (refine And.intro ?_ ?_) | (with_reducible intro _))
              all_goals first | omega | (unfold appRoom; omega) | (refine ⟨_, _, _, ?_, h⟩; simp only [duA_eq, duL_eq]; simp (config := { maxSteps := 2000000 }) only [go_sem, hG, hP, Nat.reduceEqDiff, ↓reduceIte, reduceCtorEq, Nat.reduceAdd, Nat.reduceSub, Nat.reduceMul, Nat.reduceLT, Nat.reduceLeDiff, Int.reduceAdd, Int.reduceSub, Int.reduceMul, Int.reduceLT, Int.reduceLE, Int.reduceEq, Int.reduceNeg, Int.reduceNe, Int.reduceGE, Int.reduceGT, Nat.reduceBEq, Int.reduceToNat]; all_goals (first | (simp; done) | omega))
            · rw [doEv_no3 (by rw [hD]; simp; omega)] at h
              have hce := eq_true hc
              simp (config := { maxSteps := 2000000 }) only [go_sem, hG, hP, Nat.reduceEqDiff, ↓reduceIte, reduceCtorEq, Nat.reduceAdd, Nat.reduceSub, Nat.reduceMul, Nat.reduceLT, Nat.reduceLeDiff, Int.reduceAdd, Int.reduceSub, Int.reduceMul, Int.reduceLT, Int.reduceLE, Int.reduceEq, Int.reduceNeg, Int.reduceNe, Int.reduceGE, Int.reduceGT, Nat.reduceBEq, Int.reduceToNat,  spToDu_f, spToDu_t, spToDu_k, spDuOk_f, spDuOk_t, spDuOk_k, spIn_f, spIn_t, spIn_k, spSend_f, spSend_t, spSend_k, spDelete_f, spDelete_t, spDelete_k, spArrive_f, spArrive_t, spArrive_k, takeBoxH_eq, boxTk_eq, take1_eq, callOf_0, callOf_1, ↓boxK_eq, hd, hce]
              repeat' (first | (refine And.intro ?_ ?_) | (with_reducible intro _))
              all_goals first | omega | (unfold appRoom; omega) | (refine ⟨_, _, _, ?_, h⟩; simp only [duA_eq, duL_eq]; simp (config := { maxSteps := 2000000 }) only [go_sem, hG, hP, Nat.reduceEqDiff, ↓reduceIte, reduceCtorEq, Nat.reduceAdd, Nat.reduceSub, Nat.reduceMul, Nat.reduceLT, Nat.reduceLeDiff, Int.reduceAdd, Int.reduceSub, Int.reduceMul, Int.reduceLT, Int.reduceLE, Int.reduceEq, Int.reduceNeg, Int.reduceNe, Int.reduceGE, Int.reduceGT, Nat.reduceBEq, Int.reduceToNat]; all_goals (first | (simp; done) | omega))
          · have hcl : clearOk ⟨a, x, b, y, q⟩ 0 = false := by unfold clearOk; rw [if_pos rfl]; exact decide_eq_false (by dsimp only; omega)
            have hok : evOk ⟨a, x, b, y, q⟩ 3 0 = false := by unfold evOk; rw [if_neg (by decide), if_neg (by decide), if_pos rfl, hcl]; rfl
            rw [doEv_no2 hok] at h
            have hce := eq_false hc
            simp (config := { maxSteps := 2000000 }) only [go_sem, hG, hP, Nat.reduceEqDiff, ↓reduceIte, reduceCtorEq, Nat.reduceAdd, Nat.reduceSub, Nat.reduceMul, Nat.reduceLT, Nat.reduceLeDiff, Int.reduceAdd, Int.reduceSub, Int.reduceMul, Int.reduceLT, Int.reduceLE, Int.reduceEq, Int.reduceNeg, Int.reduceNe, Int.reduceGE, Int.reduceGT, Nat.reduceBEq, Int.reduceToNat,  spToDu_f, spToDu_t, spToDu_k, spDuOk_f, spDuOk_t, spDuOk_k, spIn_f, spIn_t, spIn_k, spSend_f, spSend_t, spSend_k, spDelete_f, spDelete_t, spDelete_k, spArrive_f, spArrive_t, spArrive_k, takeBoxH_eq, boxTk_eq, take1_eq, callOf_0, callOf_1, ↓boxK_eq, hd, hce]
            repeat' (first | (refine And.intro ?_ ?_) | (with_reducible intro _))
            all_goals first | omega | (unfold appRoom; omega) | (refine ⟨_, _, _, ?_, h⟩; simp only [duA_eq, duL_eq]; simp (config := { maxSteps := 2000000 }) only [go_sem, hG, hP, Nat.reduceEqDiff, ↓reduceIte, reduceCtorEq, Nat.reduceAdd, Nat.reduceSub, Nat.reduceMul, Nat.reduceLT, Nat.reduceLeDiff, Int.reduceAdd, Int.reduceSub, Int.reduceMul, Int.reduceLT, Int.reduceLE, Int.reduceEq, Int.reduceNeg, Int.reduceNe, Int.reduceGE, Int.reduceGT, Nat.reduceBEq, Int.reduceToNat]; all_goals (first | (simp; done) | omega))
        · by_cases hc : 1 ≤ b ∧ b ≤ 3
          · have hcl : clearOk ⟨a, x, b, y, q⟩ 1 = true := by unfold clearOk; rw [if_neg (by decide)]; exact decide_eq_true (by dsimp only; omega)
            have hok : evOk ⟨a, x, b, y, q⟩ 3 1 = true := by unfold evOk; rw [if_neg (by decide), if_neg (by decide), if_pos rfl, hcl]; rfl
            have hD : evD ⟨a, x, b, y, q⟩ 3 1 = ⟨a, x, 4, y, q ++ [⟨0, 3, y⟩]⟩ := by unfold evD; rw [hok, if_neg (by simp), if_neg (by decide), if_neg (by decide), if_pos rfl]; rfl
            by_cases hq : q.length + 1 ≤ 40
            · rw [doEv_yes hd hok (by rw [hD]; simp; omega), hD] at h
              have hce := eq_true hc
              simp (config := { maxSteps := 2000000 }) only [go_sem, hG, hP, Nat.reduceEqDiff, ↓reduceIte, reduceCtorEq, Nat.reduceAdd, Nat.reduceSub, Nat.reduceMul, Nat.reduceLT, Nat.reduceLeDiff, Int.reduceAdd, Int.reduceSub, Int.reduceMul, Int.reduceLT, Int.reduceLE, Int.reduceEq, Int.reduceNeg, Int.reduceNe, Int.reduceGE, Int.reduceGT, Nat.reduceBEq, Int.reduceToNat,  spToDu_f, spToDu_t, spToDu_k, spDuOk_f, spDuOk_t, spDuOk_k, spIn_f, spIn_t, spIn_k, spSend_f, spSend_t, spSend_k, spDelete_f, spDelete_t, spDelete_k, spArrive_f, spArrive_t, spArrive_k, takeBoxH_eq, boxTk_eq, take1_eq, callOf_0, callOf_1, ↓boxK_eq, hd, hce]
              repeat' (first | (refine And.intro ?_ ?_) | (with_reducible intro _))
              all_goals first | omega | (unfold appRoom; omega) | (refine ⟨_, _, _, ?_, h⟩; simp only [duA_eq, duL_eq]; simp (config := { maxSteps := 2000000 }) only [go_sem, hG, hP, Nat.reduceEqDiff, ↓reduceIte, reduceCtorEq, Nat.reduceAdd, Nat.reduceSub, Nat.reduceMul, Nat.reduceLT, Nat.reduceLeDiff, Int.reduceAdd, Int.reduceSub, Int.reduceMul, Int.reduceLT, Int.reduceLE, Int.reduceEq, Int.reduceNeg, Int.reduceNe, Int.reduceGE, Int.reduceGT, Nat.reduceBEq, Int.reduceToNat]; all_goals (first | (simp; done) | omega))
            · rw [doEv_no3 (by rw [hD]; simp; omega)] at h
              have hce := eq_true hc
              simp (config := { maxSteps := 2000000 }) only [go_sem, hG, hP, Nat.reduceEqDiff, ↓reduceIte, reduceCtorEq, Nat.reduceAdd, Nat.reduceSub, Nat.reduceMul, Nat.reduceLT, Nat.reduceLeDiff, Int.reduceAdd, Int.reduceSub, Int.reduceMul, Int.reduceLT, Int.reduceLE, Int.reduceEq, Int.reduceNeg, Int.reduceNe, Int.reduceGE, Int.reduceGT, Nat.reduceBEq, Int.reduceToNat,  spToDu_f, spToDu_t, spToDu_k, spDuOk_f, spDuOk_t, spDuOk_k, spIn_f, spIn_t, spIn_k, spSend_f, spSend_t, spSend_k, spDelete_f, spDelete_t, spDelete_k, spArrive_f, spArrive_t, spArrive_k, takeBoxH_eq, boxTk_eq, take1_eq, callOf_0, callOf_1, ↓boxK_eq, hd, hce]
              repeat' (first | (refine And.intro ?_ ?_) | (with_reducible intro _))
              all_goals first | omega | (unfold appRoom; omega) | (refine ⟨_, _, _, ?_, h⟩; simp only [duA_eq, duL_eq]; simp (config := { maxSteps := 2000000 }) only [go_sem, hG, hP, Nat.reduceEqDiff, ↓reduceIte, reduceCtorEq, Nat.reduceAdd, Nat.reduceSub, Nat.reduceMul, Nat.reduceLT, Nat.reduceLeDiff, Int.reduceAdd, Int.reduceSub, Int.reduceMul, Int.reduceLT, Int.reduceLE, Int.reduceEq, Int.reduceNeg, Int.reduceNe, Int.reduceGE, Int.reduceGT, Nat.reduceBEq, Int.reduceToNat]; all_goals (first | (simp; done) | omega))
          · have hcl : clearOk ⟨a, x, b, y, q⟩ 1 = false := by unfold clearOk; rw [if_neg (by decide)]; exact decide_eq_false (by dsimp only; omega)
            have hok : evOk ⟨a, x, b, y, q⟩ 3 1 = false := by unfold evOk; rw [if_neg (by decide), if_neg (by decide), if_pos rfl, hcl]; rfl
            rw [doEv_no2 hok] at h
            have hce := eq_false hc
            simp (config := { maxSteps := 2000000 }) only [go_sem, hG, hP, Nat.reduceEqDiff, ↓reduceIte, reduceCtorEq, Nat.reduceAdd, Nat.reduceSub, Nat.reduceMul, Nat.reduceLT, Nat.reduceLeDiff, Int.reduceAdd, Int.reduceSub, Int.reduceMul, Int.reduceLT, Int.reduceLE, Int.reduceEq, Int.reduceNeg, Int.reduceNe, Int.reduceGE, Int.reduceGT, Nat.reduceBEq, Int.reduceToNat,  spToDu_f, spToDu_t, spToDu_k, spDuOk_f, spDuOk_t, spDuOk_k, spIn_f, spIn_t, spIn_k, spSend_f, spSend_t, spSend_k, spDelete_f, spDelete_t, spDelete_k, spArrive_f, spArrive_t, spArrive_k, takeBoxH_eq, boxTk_eq, take1_eq, callOf_0, callOf_1, ↓boxK_eq, hd, hce]
            repeat' (first | (refine And.intro ?_ ?_) | (with_reducible intro _))
            all_goals first | omega | (unfold appRoom; omega) | (refine ⟨_, _, _, ?_, h⟩; simp only [duA_eq, duL_eq]; simp (config := { maxSteps := 2000000 }) only [go_sem, hG, hP, Nat.reduceEqDiff, ↓reduceIte, reduceCtorEq, Nat.reduceAdd, Nat.reduceSub, Nat.reduceMul, Nat.reduceLT, Nat.reduceLeDiff, Int.reduceAdd, Int.reduceSub, Int.reduceMul, Int.reduceLT, Int.reduceLE, Int.reduceEq, Int.reduceNeg, Int.reduceNe, Int.reduceGE, Int.reduceGT, Nat.reduceBEq, Int.reduceToNat]; all_goals (first | (simp; done) | omega))
      · rcases side_cases p with ⟨hs, hs0, hs1⟩ | rfl | rfl
        · have hok : evOk ⟨a, x, b, y, q⟩ 4 p = false := by unfold evOk; rw [if_neg (by decide), if_neg (by decide), if_neg (by decide), if_pos rfl]; exact decide_eq_false (by omega)
          rw [doEv_no2 hok] at h
          simp (config := { maxSteps := 2000000 }) only [go_sem, hG, hP, Nat.reduceEqDiff, ↓reduceIte, reduceCtorEq, Nat.reduceAdd, Nat.reduceSub, Nat.reduceMul, Nat.reduceLT, Nat.reduceLeDiff, Int.reduceAdd, Int.reduceSub, Int.reduceMul, Int.reduceLT, Int.reduceLE, Int.reduceEq, Int.reduceNeg, Int.reduceNe, Int.reduceGE, Int.reduceGT, Nat.reduceBEq, Int.reduceToNat,  spToDu_f, spToDu_t, spToDu_k, spDuOk_f, spDuOk_t, spDuOk_k, spIn_f, spIn_t, spIn_k, spSend_f, spSend_t, spSend_k, spDelete_f, spDelete_t, spDelete_k, spArrive_f, spArrive_t, spArrive_k, takeBoxH_eq, boxTk_eq, take1_eq, callOf_0, callOf_1, ↓boxK_eq, hd, hs]
          repeat' (first | (refine And.intro ?_ ?_) | (with_reducible intro _))
          all_goals first | omega | (unfold appRoom; omega) | (refine ⟨_, _, _, ?_, h⟩; simp only [duA_eq, duL_eq]; simp (config := { maxSteps := 2000000 }) only [go_sem, hG, hP, Nat.reduceEqDiff, ↓reduceIte, reduceCtorEq, Nat.reduceAdd, Nat.reduceSub, Nat.reduceMul, Nat.reduceLT, Nat.reduceLeDiff, Int.reduceAdd, Int.reduceSub, Int.reduceMul, Int.reduceLT, Int.reduceLE, Int.reduceEq, Int.reduceNeg, Int.reduceNe, Int.reduceGE, Int.reduceGT, Nat.reduceBEq, Int.reduceToNat]; all_goals (first | (simp; done) | omega))
        · have hD0 : evD ⟨a, x, b, y, q⟩ 4 0 = timer ⟨a, x, b, y, q⟩ 0 := rfl
          by_cases h1 : a = 1
          · have hok : evOk ⟨a, x, b, y, q⟩ 4 0 = true := by rfl
            have hD : evD ⟨a, x, b, y, q⟩ 4 0 = ⟨a, x, b, y, q ++ [⟨1, 1, x⟩]⟩ := by rw [hD0]; unfold timer; rw [if_pos rfl]; exact if_pos h1
            by_cases hq : q.length + 1 ≤ 40
            · rw [doEv_yes hd hok (by rw [hD]; simp; omega), hD] at h
              have h1e := eq_true h1
              simp (config := { maxSteps := 2000000 }) only [go_sem, hG, hP, Nat.reduceEqDiff, ↓reduceIte, reduceCtorEq, Nat.reduceAdd, Nat.reduceSub, Nat.reduceMul, Nat.reduceLT, Nat.reduceLeDiff, Int.reduceAdd, Int.reduceSub, Int.reduceMul, Int.reduceLT, Int.reduceLE, Int.reduceEq, Int.reduceNeg, Int.reduceNe, Int.reduceGE, Int.reduceGT, Nat.reduceBEq, Int.reduceToNat,  spToDu_f, spToDu_t, spToDu_k, spDuOk_f, spDuOk_t, spDuOk_k, spIn_f, spIn_t, spIn_k, spSend_f, spSend_t, spSend_k, spDelete_f, spDelete_t, spDelete_k, spArrive_f, spArrive_t, spArrive_k, takeBoxH_eq, boxTk_eq, take1_eq, callOf_0, callOf_1, ↓boxK_eq, hd, h1e]
              repeat' (first | (refine And.intro ?_ ?_) | (with_reducible intro _))
              all_goals first | omega | (unfold appRoom; omega) | (refine ⟨_, _, _, ?_, h⟩; simp only [duA_eq, duL_eq]; simp (config := { maxSteps := 2000000 }) only [go_sem, hG, hP, Nat.reduceEqDiff, ↓reduceIte, reduceCtorEq, Nat.reduceAdd, Nat.reduceSub, Nat.reduceMul, Nat.reduceLT, Nat.reduceLeDiff, Int.reduceAdd, Int.reduceSub, Int.reduceMul, Int.reduceLT, Int.reduceLE, Int.reduceEq, Int.reduceNeg, Int.reduceNe, Int.reduceGE, Int.reduceGT, Nat.reduceBEq, Int.reduceToNat]; all_goals (first | (simp; done) | omega))
            · rw [doEv_no3 (by rw [hD]; simp; omega)] at h
              have h1e := eq_true h1
              simp (config := { maxSteps := 2000000 }) only [go_sem, hG, hP, Nat.reduceEqDiff, ↓reduceIte, reduceCtorEq, Nat.reduceAdd, Nat.reduceSub, Nat.reduceMul, Nat.reduceLT, Nat.reduceLeDiff, Int.reduceAdd, Int.reduceSub, Int.reduceMul, Int.reduceLT, Int.reduceLE, Int.reduceEq, Int.reduceNeg, Int.reduceNe, Int.reduceGE, Int.reduceGT, Nat.reduceBEq, Int.reduceToNat,  spToDu_f, spToDu_t, spToDu_k, spDuOk_f, spDuOk_t, spDuOk_k, spIn_f, spIn_t, spIn_k, spSend_f, spSend_t, spSend_k, spDelete_f, spDelete_t, spDelete_k, spArrive_f, spArrive_t, spArrive_k, takeBoxH_eq, boxTk_eq, take1_eq, callOf_0, callOf_1, ↓boxK_eq, hd, h1e]
              repeat' (first | (refine And.intro ?_ ?_) | (with_reducible intro _))
              all_goals first | omega | (unfold appRoom; omega) | (refine ⟨_, _, _, ?_, h⟩; simp only [duA_eq, duL_eq]; simp (config := { maxSteps := 2000000 }) only [go_sem, hG, hP, Nat.reduceEqDiff, ↓reduceIte, reduceCtorEq, Nat.reduceAdd, Nat.reduceSub, Nat.reduceMul, Nat.reduceLT, Nat.reduceLeDiff, Int.reduceAdd, Int.reduceSub, Int.reduceMul, Int.reduceLT, Int.reduceLE, Int.reduceEq, Int.reduceNeg, Int.reduceNe, Int.reduceGE, Int.reduceGT, Nat.reduceBEq, Int.reduceToNat]; all_goals (first | (simp; done) | omega))
          · by_cases h4 : a = 4
            · have hok : evOk ⟨a, x, b, y, q⟩ 4 0 = true := by rfl
              have hD : evD ⟨a, x, b, y, q⟩ 4 0 = ⟨a, x, b, y, q ++ [⟨1, 3, x⟩]⟩ := by rw [hD0]; unfold timer; rw [if_pos rfl]; rw [if_neg h1]; exact if_pos h4
              by_cases hq : q.length + 1 ≤ 40
              · rw [doEv_yes hd hok (by rw [hD]; simp; omega), hD] at h
                have h1e := eq_false h1
                have h4e := eq_true h4
                simp (config := { maxSteps := 2000000 }) only [go_sem, hG, hP, Nat.reduceEqDiff, ↓reduceIte, reduceCtorEq, Nat.reduceAdd, Nat.reduceSub, Nat.reduceMul, Nat.reduceLT, Nat.reduceLeDiff, Int.reduceAdd, Int.reduceSub, Int.reduceMul, Int.reduceLT, Int.reduceLE, Int.reduceEq, Int.reduceNeg, Int.reduceNe, Int.reduceGE, Int.reduceGT, Nat.reduceBEq, Int.reduceToNat,  spToDu_f, spToDu_t, spToDu_k, spDuOk_f, spDuOk_t, spDuOk_k, spIn_f, spIn_t, spIn_k, spSend_f, spSend_t, spSend_k, spDelete_f, spDelete_t, spDelete_k, spArrive_f, spArrive_t, spArrive_k, takeBoxH_eq, boxTk_eq, take1_eq, callOf_0, callOf_1, ↓boxK_eq, hd, h1e, h4e]
                repeat' (first | (refine And.intro ?_ ?_) | (with_reducible intro _))
                all_goals first | omega | (unfold appRoom; omega) | (refine ⟨_, _, _, ?_, h⟩; simp only [duA_eq, duL_eq]; simp (config := { maxSteps := 2000000 }) only [go_sem, hG, hP, Nat.reduceEqDiff, ↓reduceIte, reduceCtorEq, Nat.reduceAdd, Nat.reduceSub, Nat.reduceMul, Nat.reduceLT, Nat.reduceLeDiff, Int.reduceAdd, Int.reduceSub, Int.reduceMul, Int.reduceLT, Int.reduceLE, Int.reduceEq, Int.reduceNeg, Int.reduceNe, Int.reduceGE, Int.reduceGT, Nat.reduceBEq, Int.reduceToNat]; all_goals (first | (simp; done) | omega))
              · rw [doEv_no3 (by rw [hD]; simp; omega)] at h
                have h1e := eq_false h1
                have h4e := eq_true h4
                simp (config := { maxSteps := 2000000 }) only [go_sem, hG, hP, Nat.reduceEqDiff, ↓reduceIte, reduceCtorEq, Nat.reduceAdd, Nat.reduceSub, Nat.reduceMul, Nat.reduceLT, Nat.reduceLeDiff, Int.reduceAdd, Int.reduceSub, Int.reduceMul, Int.reduceLT, Int.reduceLE, Int.reduceEq, Int.reduceNeg, Int.reduceNe, Int.reduceGE, Int.reduceGT, Nat.reduceBEq, Int.reduceToNat,  spToDu_f, spToDu_t, spToDu_k, spDuOk_f, spDuOk_t, spDuOk_k, spIn_f, spIn_t, spIn_k, spSend_f, spSend_t, spSend_k, spDelete_f, spDelete_t, spDelete_k, spArrive_f, spArrive_t, spArrive_k, takeBoxH_eq, boxTk_eq, take1_eq, callOf_0, callOf_1, ↓boxK_eq, hd, h1e, h4e]
                repeat' (first | (refine And.intro ?_ ?_) | (with_reducible intro _))
                all_goals first | omega | (unfold appRoom; omega) | (refine ⟨_, _, _, ?_, h⟩; simp only [duA_eq, duL_eq]; simp (config := { maxSteps := 2000000 }) only [go_sem, hG, hP, Nat.reduceEqDiff, ↓reduceIte, reduceCtorEq, Nat.reduceAdd, Nat.reduceSub, Nat.reduceMul, Nat.reduceLT, Nat.reduceLeDiff, Int.reduceAdd, Int.reduceSub, Int.reduceMul, Int.reduceLT, Int.reduceLE, Int.reduceEq, Int.reduceNeg, Int.reduceNe, Int.reduceGE, Int.reduceGT, Nat.reduceBEq, Int.reduceToNat]; all_goals (first | (simp; done) | omega))
            · have hok : evOk ⟨a, x, b, y, q⟩ 4 0 = true := by rfl
              have hD : evD ⟨a, x, b, y, q⟩ 4 0 = ⟨a, x, b, y, q⟩ := by rw [hD0]; unfold timer; rw [if_pos rfl]; rw [if_neg h1]; exact if_neg h4
              rw [doEv_yes hd hok (by rw [hD]; first | exact hl | (simp; omega)), hD] at h
              have h1e := eq_false h1
              have h4e := eq_false h4
              simp (config := { maxSteps := 2000000 }) only [go_sem, hG, hP, Nat.reduceEqDiff, ↓reduceIte, reduceCtorEq, Nat.reduceAdd, Nat.reduceSub, Nat.reduceMul, Nat.reduceLT, Nat.reduceLeDiff, Int.reduceAdd, Int.reduceSub, Int.reduceMul, Int.reduceLT, Int.reduceLE, Int.reduceEq, Int.reduceNeg, Int.reduceNe, Int.reduceGE, Int.reduceGT, Nat.reduceBEq, Int.reduceToNat,  spToDu_f, spToDu_t, spToDu_k, spDuOk_f, spDuOk_t, spDuOk_k, spIn_f, spIn_t, spIn_k, spSend_f, spSend_t, spSend_k, spDelete_f, spDelete_t, spDelete_k, spArrive_f, spArrive_t, spArrive_k, takeBoxH_eq, boxTk_eq, take1_eq, callOf_0, callOf_1, ↓boxK_eq, hd, h1e, h4e]
              repeat' (first | (refine And.intro ?_ ?_) | (with_reducible intro _))
              all_goals first | omega | (unfold appRoom; omega) | (refine ⟨_, _, _, ?_, h⟩; simp only [duA_eq, duL_eq]; simp (config := { maxSteps := 2000000 }) only [go_sem, hG, hP, Nat.reduceEqDiff, ↓reduceIte, reduceCtorEq, Nat.reduceAdd, Nat.reduceSub, Nat.reduceMul, Nat.reduceLT, Nat.reduceLeDiff, Int.reduceAdd, Int.reduceSub, Int.reduceMul, Int.reduceLT, Int.reduceLE, Int.reduceEq, Int.reduceNeg, Int.reduceNe, Int.reduceGE, Int.reduceGT, Nat.reduceBEq, Int.reduceToNat]; all_goals (first | (simp; done) | omega))
        · have hD0 : evD ⟨a, x, b, y, q⟩ 4 1 = timer ⟨a, x, b, y, q⟩ 1 := rfl
          by_cases h1 : b = 1
          · omega
          · by_cases h4 : b = 4
            · have hok : evOk ⟨a, x, b, y, q⟩ 4 1 = true := by rfl
              have hD : evD ⟨a, x, b, y, q⟩ 4 1 = ⟨a, x, b, y, q ++ [⟨0, 3, y⟩]⟩ := by rw [hD0]; unfold timer; rw [if_neg (by decide)]; rw [if_neg h1]; exact if_pos h4
              by_cases hq : q.length + 1 ≤ 40
              · rw [doEv_yes hd hok (by rw [hD]; simp; omega), hD] at h
                have h1e := eq_false h1
                have h4e := eq_true h4
                simp (config := { maxSteps := 2000000 }) only [go_sem, hG, hP, Nat.reduceEqDiff, ↓reduceIte, reduceCtorEq, Nat.reduceAdd, Nat.reduceSub, Nat.reduceMul, Nat.reduceLT, Nat.reduceLeDiff, Int.reduceAdd, Int.reduceSub, Int.reduceMul, Int.reduceLT, Int.reduceLE, Int.reduceEq, Int.reduceNeg, Int.reduceNe, Int.reduceGE, Int.reduceGT, Nat.reduceBEq, Int.reduceToNat,  spToDu_f, spToDu_t, spToDu_k, spDuOk_f, spDuOk_t, spDuOk_k, spIn_f, spIn_t, spIn_k, spSend_f, spSend_t, spSend_k, spDelete_f, spDelete_t, spDelete_k, spArrive_f, spArrive_t, spArrive_k, takeBoxH_eq, boxTk_eq, take1_eq, callOf_0, callOf_1, ↓boxK_eq, hd, h1e, h4e]
                repeat' (first | (refine And.intro ?_ ?_) | (with_reducible intro _))
                all_goals first | omega | (unfold appRoom; omega) | (refine ⟨_, _, _, ?_, h⟩; simp only [duA_eq, duL_eq]; simp (config := { maxSteps := 2000000 }) only [go_sem, hG, hP, Nat.reduceEqDiff, ↓reduceIte, reduceCtorEq, Nat.reduceAdd, Nat.reduceSub, Nat.reduceMul, Nat.reduceLT, Nat.reduceLeDiff, Int.reduceAdd, Int.reduceSub, Int.reduceMul, Int.reduceLT, Int.reduceLE, Int.reduceEq, Int.reduceNeg, Int.reduceNe, Int.reduceGE, Int.reduceGT, Nat.reduceBEq, Int.reduceToNat]; all_goals (first | (simp; done) | omega))
              · rw [doEv_no3 (by rw [hD]; simp; omega)] at h
                have h1e := eq_false h1
                have h4e := eq_true h4
                simp (config := { maxSteps := 2000000 }) only [go_sem, hG, hP, Nat.reduceEqDiff, ↓reduceIte, reduceCtorEq, Nat.reduceAdd, Nat.reduceSub, Nat.reduceMul, Nat.reduceLT, Nat.reduceLeDiff, Int.reduceAdd, Int.reduceSub, Int.reduceMul, Int.reduceLT, Int.reduceLE, Int.reduceEq, Int.reduceNeg, Int.reduceNe, Int.reduceGE, Int.reduceGT, Nat.reduceBEq, Int.reduceToNat,  spToDu_f, spToDu_t, spToDu_k, spDuOk_f, spDuOk_t, spDuOk_k, spIn_f, spIn_t, spIn_k, spSend_f, spSend_t, spSend_k, spDelete_f, spDelete_t, spDelete_k, spArrive_f, spArrive_t, spArrive_k, takeBoxH_eq, boxTk_eq, take1_eq, callOf_0, callOf_1, ↓boxK_eq, hd, h1e, h4e]
                repeat' (first | (refine And.intro ?_ ?_) | (with_reducible intro _))
                all_goals first | omega | (unfold appRoom; omega) | (refine ⟨_, _, _, ?_, h⟩; simp only [duA_eq, duL_eq]; simp (config := { maxSteps := 2000000 }) only [go_sem, hG, hP, Nat.reduceEqDiff, ↓reduceIte, reduceCtorEq, Nat.reduceAdd, Nat.reduceSub, Nat.reduceMul, Nat.reduceLT, Nat.reduceLeDiff, Int.reduceAdd, Int.reduceSub, Int.reduceMul, Int.reduceLT, Int.reduceLE, Int.reduceEq, Int.reduceNeg, Int.reduceNe, Int.reduceGE, Int.reduceGT, Nat.reduceBEq, Int.reduceToNat]; all_goals (first | (simp; done) | omega))
            · have hok : evOk ⟨a, x, b, y, q⟩ 4 1 = true := by rfl
              have hD : evD ⟨a, x, b, y, q⟩ 4 1 = ⟨a, x, b, y, q⟩ := by rw [hD0]; unfold timer; rw [if_neg (by decide)]; rw [if_neg h1]; exact if_neg h4
              rw [doEv_yes hd hok (by rw [hD]; first | exact hl | (simp; omega)), hD] at h
              have h1e := eq_false h1
              have h4e := eq_false h4
              simp (config := { maxSteps := 2000000 }) only [go_sem, hG, hP, Nat.reduceEqDiff, ↓reduceIte, reduceCtorEq, Nat.reduceAdd, Nat.reduceSub, Nat.reduceMul, Nat.reduceLT, Nat.reduceLeDiff, Int.reduceAdd, Int.reduceSub, Int.reduceMul, Int.reduceLT, Int.reduceLE, Int.reduceEq, Int.reduceNeg, Int.reduceNe, Int.reduceGE, Int.reduceGT, Nat.reduceBEq, Int.reduceToNat,  spToDu_f, spToDu_t, spToDu_k, spDuOk_f, spDuOk_t, spDuOk_k, spIn_f, spIn_t, spIn_k, spSend_f, spSend_t, spSend_k, spDelete_f, spDelete_t, spDelete_k, spArrive_f, spArrive_t, spArrive_k, takeBoxH_eq, boxTk_eq, take1_eq, callOf_0, callOf_1, ↓boxK_eq, hd, h1e, h4e]
              repeat' (first | (refine And.intro ?_ ?_) | (with_reducible intro _))
              all_goals first | omega | (unfold appRoom; omega) | (refine ⟨_, _, _, ?_, h⟩; simp only [duA_eq, duL_eq]; simp (config := { maxSteps := 2000000 }) only [go_sem, hG, hP, Nat.reduceEqDiff, ↓reduceIte, reduceCtorEq, Nat.reduceAdd, Nat.reduceSub, Nat.reduceMul, Nat.reduceLT, Nat.reduceLeDiff, Int.reduceAdd, Int.reduceSub, Int.reduceMul, Int.reduceLT, Int.reduceLE, Int.reduceEq, Int.reduceNeg, Int.reduceNe, Int.reduceGE, Int.reduceGT, Nat.reduceBEq, Int.reduceToNat]; all_goals (first | (simp; done) | omega))
      · by_cases hp : 0 ≤ p ∧ p ≤ (q.length : Int) - 1
        · have hpe := eq_true hp
          have hsg := duOk_sig hd (i := p.toNat) (by dsimp only; omega)
          dsimp only at hsg
          have hok : evOk ⟨a, x, b, y, q⟩ k p = true := by unfold evOk; rw [if_neg (by omega), if_neg (by omega), if_neg (by omega), if_neg (by omega), if_pos hk]; exact decide_eq_true hp
          have hD : evD ⟨a, x, b, y, q⟩ k p = wayD ⟨a, x, b, y, q⟩ k p.toNat := by unfold evD; rw [hok, if_neg (by simp), if_neg (by omega), if_neg (by omega), if_neg (by omega), if_neg (by omega)]
          obtain ⟨i, rfl⟩ : ∃ i : Nat, p = i := ⟨p.toNat, by omega⟩
          rw [Int.toNat_natCast] at hD hsg
          have t12 : wr .i64 ((i : Int) + 1) = (i : Int) + 1 := wrap_id (by omega) (by omega)
          have t10 := delAt_len q i (by omega)
          rcases hsd : q.getD i ⟨0, 0, 0⟩ with ⟨to, kind, call⟩
          rw [hsd] at hsg
          dsimp only at hsg
          rcases hk with rfl | rfl | rfl
          · cases hg : arrG ⟨a, x, b, y, delAt q i⟩ ⟨to, kind, call⟩
            · have e := arrG_no hg
              rcases hv : arr ⟨a, x, b, y, delAt q i⟩ ⟨to, kind, call⟩ with ⟨a', x', b', y', q'⟩
              rw [hv] at e
              dsimp only at e
              subst e
              have hD' : evD ⟨a, x, b, y, q⟩ 5 i = ⟨a', x', b', y', delAt q i⟩ := by rw [hD]; unfold wayD; rw [if_neg (by decide), if_pos rfl]; dsimp only; rw [hsd]; exact hv
              rw [doEv_yes hd hok (by rw [hD']; dsimp only; omega), hD'] at h
              simp (config := { maxSteps := 2000000 }) only [go_sem, hG, hP, Nat.reduceEqDiff, ↓reduceIte, reduceCtorEq, Nat.reduceAdd, Nat.reduceSub, Nat.reduceMul, Nat.reduceLT, Nat.reduceLeDiff, Int.reduceAdd, Int.reduceSub, Int.reduceMul, Int.reduceLT, Int.reduceLE, Int.reduceEq, Int.reduceNeg, Int.reduceNe, Int.reduceGE, Int.reduceGT, Nat.reduceBEq, Int.reduceToNat,  spToDu_f, spToDu_t, spToDu_k, spDuOk_f, spDuOk_t, spDuOk_k, spIn_f, spIn_t, spIn_k, spSend_f, spSend_t, spSend_k, spDelete_f, spDelete_t, spDelete_k, spArrive_f, spArrive_t, spArrive_k, takeBoxH_eq, boxTk_eq, take1_eq, callOf_0, callOf_1, ↓boxK_eq, hd, hw, hpe, t12, hsd, hg, hv]
              repeat' (first | (refine And.intro ?_ ?_) | (with_reducible intro _))
              all_goals first | omega | (unfold appRoom; omega) | (refine ⟨_, _, _, ?_, h⟩; simp only [duA_eq, duL_eq]; simp (config := { maxSteps := 2000000 }) only [go_sem, hG, hP, Nat.reduceEqDiff, ↓reduceIte, reduceCtorEq, Nat.reduceAdd, Nat.reduceSub, Nat.reduceMul, Nat.reduceLT, Nat.reduceLeDiff, Int.reduceAdd, Int.reduceSub, Int.reduceMul, Int.reduceLT, Int.reduceLE, Int.reduceEq, Int.reduceNeg, Int.reduceNe, Int.reduceGE, Int.reduceGT, Nat.reduceBEq, Int.reduceToNat]; all_goals (first | (simp; done) | omega))
            · have e := arrG_yes hg
              rcases hv : arr ⟨a, x, b, y, delAt q i⟩ ⟨to, kind, call⟩ with ⟨a', x', b', y', q'⟩
              rw [hv] at e
              dsimp only at e
              have hD' : evD ⟨a, x, b, y, q⟩ 5 i = ⟨a', x', b', y', q'⟩ := by rw [hD]; unfold wayD; rw [if_neg (by decide), if_pos rfl]; dsimp only; rw [hsd]; exact hv
              rw [doEv_yes hd hok (by rw [hD']; dsimp only; omega), hD'] at h
              simp (config := { maxSteps := 2000000 }) only [go_sem, hG, hP, Nat.reduceEqDiff, ↓reduceIte, reduceCtorEq, Nat.reduceAdd, Nat.reduceSub, Nat.reduceMul, Nat.reduceLT, Nat.reduceLeDiff, Int.reduceAdd, Int.reduceSub, Int.reduceMul, Int.reduceLT, Int.reduceLE, Int.reduceEq, Int.reduceNeg, Int.reduceNe, Int.reduceGE, Int.reduceGT, Nat.reduceBEq, Int.reduceToNat,  spToDu_f, spToDu_t, spToDu_k, spDuOk_f, spDuOk_t, spDuOk_k, spIn_f, spIn_t, spIn_k, spSend_f, spSend_t, spSend_k, spDelete_f, spDelete_t, spDelete_k, spArrive_f, spArrive_t, spArrive_k, takeBoxH_eq, boxTk_eq, take1_eq, callOf_0, callOf_1, ↓boxK_eq, hd, hw, hpe, t12, hsd, hg, hv]
              repeat' (first | (refine And.intro ?_ ?_) | (with_reducible intro _))
              all_goals first | omega | (unfold appRoom; omega) | (refine ⟨_, _, _, ?_, h⟩; simp only [duA_eq, duL_eq]; simp (config := { maxSteps := 2000000 }) only [go_sem, hG, hP, Nat.reduceEqDiff, ↓reduceIte, reduceCtorEq, Nat.reduceAdd, Nat.reduceSub, Nat.reduceMul, Nat.reduceLT, Nat.reduceLeDiff, Int.reduceAdd, Int.reduceSub, Int.reduceMul, Int.reduceLT, Int.reduceLE, Int.reduceEq, Int.reduceNeg, Int.reduceNe, Int.reduceGE, Int.reduceGT, Nat.reduceBEq, Int.reduceToNat]; all_goals (first | (simp; done) | omega))
          · have hD' : evD ⟨a, x, b, y, q⟩ 6 i = ⟨a, x, b, y, delAt q i⟩ := by rw [hD]; rfl
            rw [doEv_yes hd hok (by rw [hD']; dsimp only; omega), hD'] at h
            simp (config := { maxSteps := 2000000 }) only [go_sem, hG, hP, Nat.reduceEqDiff, ↓reduceIte, reduceCtorEq, Nat.reduceAdd, Nat.reduceSub, Nat.reduceMul, Nat.reduceLT, Nat.reduceLeDiff, Int.reduceAdd, Int.reduceSub, Int.reduceMul, Int.reduceLT, Int.reduceLE, Int.reduceEq, Int.reduceNeg, Int.reduceNe, Int.reduceGE, Int.reduceGT, Nat.reduceBEq, Int.reduceToNat,  spToDu_f, spToDu_t, spToDu_k, spDuOk_f, spDuOk_t, spDuOk_k, spIn_f, spIn_t, spIn_k, spSend_f, spSend_t, spSend_k, spDelete_f, spDelete_t, spDelete_k, spArrive_f, spArrive_t, spArrive_k, takeBoxH_eq, boxTk_eq, take1_eq, callOf_0, callOf_1, ↓boxK_eq, hd, hw, hpe, t12, hsd]
            repeat' (first | (refine And.intro ?_ ?_) | (with_reducible intro _))
            all_goals first | omega | (unfold appRoom; omega) | (refine ⟨_, _, _, ?_, h⟩; simp only [duA_eq, duL_eq]; simp (config := { maxSteps := 2000000 }) only [go_sem, hG, hP, Nat.reduceEqDiff, ↓reduceIte, reduceCtorEq, Nat.reduceAdd, Nat.reduceSub, Nat.reduceMul, Nat.reduceLT, Nat.reduceLeDiff, Int.reduceAdd, Int.reduceSub, Int.reduceMul, Int.reduceLT, Int.reduceLE, Int.reduceEq, Int.reduceNeg, Int.reduceNe, Int.reduceGE, Int.reduceGT, Nat.reduceBEq, Int.reduceToNat]; all_goals (first | (simp; done) | omega))
          · have hD' : evD ⟨a, x, b, y, q⟩ 7 i = ⟨a, x, b, y, q ++ [⟨to, kind, call⟩]⟩ := by rw [hD]; unfold wayD; rw [if_pos rfl, hsd]
            by_cases hq : q.length + 1 ≤ 40
            · rw [doEv_yes hd hok (by rw [hD']; simp; omega), hD'] at h
              simp (config := { maxSteps := 2000000 }) only [go_sem, hG, hP, Nat.reduceEqDiff, ↓reduceIte, reduceCtorEq, Nat.reduceAdd, Nat.reduceSub, Nat.reduceMul, Nat.reduceLT, Nat.reduceLeDiff, Int.reduceAdd, Int.reduceSub, Int.reduceMul, Int.reduceLT, Int.reduceLE, Int.reduceEq, Int.reduceNeg, Int.reduceNe, Int.reduceGE, Int.reduceGT, Nat.reduceBEq, Int.reduceToNat,  spToDu_f, spToDu_t, spToDu_k, spDuOk_f, spDuOk_t, spDuOk_k, spIn_f, spIn_t, spIn_k, spSend_f, spSend_t, spSend_k, spDelete_f, spDelete_t, spDelete_k, spArrive_f, spArrive_t, spArrive_k, takeBoxH_eq, boxTk_eq, take1_eq, callOf_0, callOf_1, ↓boxK_eq, hd, hw, hpe, t12, hsd]
              repeat' (first | (refine And.intro ?_ ?_) | (with_reducible intro _))
              all_goals first | omega | (unfold appRoom; omega) | (refine ⟨_, _, _, ?_, h⟩; simp only [duA_eq, duL_eq]; simp (config := { maxSteps := 2000000 }) only [go_sem, hG, hP, Nat.reduceEqDiff, ↓reduceIte, reduceCtorEq, Nat.reduceAdd, Nat.reduceSub, Nat.reduceMul, Nat.reduceLT, Nat.reduceLeDiff, Int.reduceAdd, Int.reduceSub, Int.reduceMul, Int.reduceLT, Int.reduceLE, Int.reduceEq, Int.reduceNeg, Int.reduceNe, Int.reduceGE, Int.reduceGT, Nat.reduceBEq, Int.reduceToNat]; all_goals (first | (simp; done) | omega))
            · rw [doEv_no3 (by rw [hD']; simp; omega)] at h
              simp (config := { maxSteps := 2000000 }) only [go_sem, hG, hP, Nat.reduceEqDiff, ↓reduceIte, reduceCtorEq, Nat.reduceAdd, Nat.reduceSub, Nat.reduceMul, Nat.reduceLT, Nat.reduceLeDiff, Int.reduceAdd, Int.reduceSub, Int.reduceMul, Int.reduceLT, Int.reduceLE, Int.reduceEq, Int.reduceNeg, Int.reduceNe, Int.reduceGE, Int.reduceGT, Nat.reduceBEq, Int.reduceToNat,  spToDu_f, spToDu_t, spToDu_k, spDuOk_f, spDuOk_t, spDuOk_k, spIn_f, spIn_t, spIn_k, spSend_f, spSend_t, spSend_k, spDelete_f, spDelete_t, spDelete_k, spArrive_f, spArrive_t, spArrive_k, takeBoxH_eq, boxTk_eq, take1_eq, callOf_0, callOf_1, ↓boxK_eq, hd, hw, hpe, t12, hsd]
              repeat' (first | (refine And.intro ?_ ?_) | (with_reducible intro _))
              all_goals first | omega | (unfold appRoom; omega) | (refine ⟨_, _, _, ?_, h⟩; simp only [duA_eq, duL_eq]; simp (config := { maxSteps := 2000000 }) only [go_sem, hG, hP, Nat.reduceEqDiff, ↓reduceIte, reduceCtorEq, Nat.reduceAdd, Nat.reduceSub, Nat.reduceMul, Nat.reduceLT, Nat.reduceLeDiff, Int.reduceAdd, Int.reduceSub, Int.reduceMul, Int.reduceLT, Int.reduceLE, Int.reduceEq, Int.reduceNeg, Int.reduceNe, Int.reduceGE, Int.reduceGT, Nat.reduceBEq, Int.reduceToNat]; all_goals (first | (simp; done) | omega))
        · have hpe := eq_false hp
          have hok : evOk ⟨a, x, b, y, q⟩ k p = false := by unfold evOk; rw [if_neg (by omega), if_neg (by omega), if_neg (by omega), if_neg (by omega), if_pos hk]; exact decide_eq_false hp
          rw [doEv_no2 hok] at h
          rcases hk with rfl | rfl | rfl
          · simp (config := { maxSteps := 2000000 }) only [go_sem, hG, hP, Nat.reduceEqDiff, ↓reduceIte, reduceCtorEq, Nat.reduceAdd, Nat.reduceSub, Nat.reduceMul, Nat.reduceLT, Nat.reduceLeDiff, Int.reduceAdd, Int.reduceSub, Int.reduceMul, Int.reduceLT, Int.reduceLE, Int.reduceEq, Int.reduceNeg, Int.reduceNe, Int.reduceGE, Int.reduceGT, Nat.reduceBEq, Int.reduceToNat,  spToDu_f, spToDu_t, spToDu_k, spDuOk_f, spDuOk_t, spDuOk_k, spIn_f, spIn_t, spIn_k, spSend_f, spSend_t, spSend_k, spDelete_f, spDelete_t, spDelete_k, spArrive_f, spArrive_t, spArrive_k, takeBoxH_eq, boxTk_eq, take1_eq, callOf_0, callOf_1, ↓boxK_eq, hd, hw, hpe]
            repeat' (first | (refine And.intro ?_ ?_) | (with_reducible intro _))
            all_goals first | omega | (unfold appRoom; omega) | (refine ⟨_, _, _, ?_, h⟩; simp only [duA_eq, duL_eq]; simp (config := { maxSteps := 2000000 }) only [go_sem, hG, hP, Nat.reduceEqDiff, ↓reduceIte, reduceCtorEq, Nat.reduceAdd, Nat.reduceSub, Nat.reduceMul, Nat.reduceLT, Nat.reduceLeDiff, Int.reduceAdd, Int.reduceSub, Int.reduceMul, Int.reduceLT, Int.reduceLE, Int.reduceEq, Int.reduceNeg, Int.reduceNe, Int.reduceGE, Int.reduceGT, Nat.reduceBEq, Int.reduceToNat]; all_goals (first | (simp; done) | omega))
          · simp (config := { maxSteps := 2000000 }) only [go_sem, hG, hP, Nat.reduceEqDiff, ↓reduceIte, reduceCtorEq, Nat.reduceAdd, Nat.reduceSub, Nat.reduceMul, Nat.reduceLT, Nat.reduceLeDiff, Int.reduceAdd, Int.reduceSub, Int.reduceMul, Int.reduceLT, Int.reduceLE, Int.reduceEq, Int.reduceNeg, Int.reduceNe, Int.reduceGE, Int.reduceGT, Nat.reduceBEq, Int.reduceToNat,  spToDu_f, spToDu_t, spToDu_k, spDuOk_f, spDuOk_t, spDuOk_k, spIn_f, spIn_t, spIn_k, spSend_f, spSend_t, spSend_k, spDelete_f, spDelete_t, spDelete_k, spArrive_f, spArrive_t, spArrive_k, takeBoxH_eq, boxTk_eq, take1_eq, callOf_0, callOf_1, ↓boxK_eq, hd, hw, hpe]
            repeat' (first | (refine And.intro ?_ ?_) | (with_reducible intro _))
            all_goals first | omega | (unfold appRoom; omega) | (refine ⟨_, _, _, ?_, h⟩; simp only [duA_eq, duL_eq]; simp (config := { maxSteps := 2000000 }) only [go_sem, hG, hP, Nat.reduceEqDiff, ↓reduceIte, reduceCtorEq, Nat.reduceAdd, Nat.reduceSub, Nat.reduceMul, Nat.reduceLT, Nat.reduceLeDiff, Int.reduceAdd, Int.reduceSub, Int.reduceMul, Int.reduceLT, Int.reduceLE, Int.reduceEq, Int.reduceNeg, Int.reduceNe, Int.reduceGE, Int.reduceGT, Nat.reduceBEq, Int.reduceToNat]; all_goals (first | (simp; done) | omega))
          · simp (config := { maxSteps := 2000000 }) only [go_sem, hG, hP, Nat.reduceEqDiff, ↓reduceIte, reduceCtorEq, Nat.reduceAdd, Nat.reduceSub, Nat.reduceMul, Nat.reduceLT, Nat.reduceLeDiff, Int.reduceAdd, Int.reduceSub, Int.reduceMul, Int.reduceLT, Int.reduceLE, Int.reduceEq, Int.reduceNeg, Int.reduceNe, Int.reduceGE, Int.reduceGT, Nat.reduceBEq, Int.reduceToNat,  spToDu_f, spToDu_t, spToDu_k, spDuOk_f, spDuOk_t, spDuOk_k, spIn_f, spIn_t, spIn_k, spSend_f, spSend_t, spSend_k, spDelete_f, spDelete_t, spDelete_k, spArrive_f, spArrive_t, spArrive_k, takeBoxH_eq, boxTk_eq, take1_eq, callOf_0, callOf_1, ↓boxK_eq, hd, hw, hpe]
            repeat' (first | (refine And.intro ?_ ?_) | (with_reducible intro _))
            all_goals first | omega | (unfold appRoom; omega) | (refine ⟨_, _, _, ?_, h⟩; simp only [duA_eq, duL_eq]; simp (config := { maxSteps := 2000000 }) only [go_sem, hG, hP, Nat.reduceEqDiff, ↓reduceIte, reduceCtorEq, Nat.reduceAdd, Nat.reduceSub, Nat.reduceMul, Nat.reduceLT, Nat.reduceLeDiff, Int.reduceAdd, Int.reduceSub, Int.reduceMul, Int.reduceLT, Int.reduceLE, Int.reduceEq, Int.reduceNeg, Int.reduceNe, Int.reduceGE, Int.reduceGT, Nat.reduceBEq, Int.reduceToNat]; all_goals (first | (simp; done) | omega))
      · have hok : evOk ⟨a, x, b, y, q⟩ k p = false := by unfold evOk; rw [if_neg k1, if_neg k2, if_neg k3, if_neg k4, if_neg (by omega)]
        rw [doEv_no2 hok] at h
        simp (config := { maxSteps := 2000000 }) only [go_sem, hG, hP, Nat.reduceEqDiff, ↓reduceIte, reduceCtorEq, Nat.reduceAdd, Nat.reduceSub, Nat.reduceMul, Nat.reduceLT, Nat.reduceLeDiff, Int.reduceAdd, Int.reduceSub, Int.reduceMul, Int.reduceLT, Int.reduceLE, Int.reduceEq, Int.reduceNeg, Int.reduceNe, Int.reduceGE, Int.reduceGT, Nat.reduceBEq, Int.reduceToNat,  spToDu_f, spToDu_t, spToDu_k, spDuOk_f, spDuOk_t, spDuOk_k, spIn_f, spIn_t, spIn_k, spSend_f, spSend_t, spSend_k, spDelete_f, spDelete_t, spDelete_k, spArrive_f, spArrive_t, spArrive_k, takeBoxH_eq, boxTk_eq, take1_eq, callOf_0, callOf_1, ↓boxK_eq, hd, k1, k2, k3, k4, k5, k6, k7]
        repeat' (first | (refine And.intro ?_ ?_) | (with_reducible intro _))
        all_goals first | omega | (unfold appRoom; omega) | (refine ⟨_, _, _, ?_, h⟩; simp only [duA_eq, duL_eq]; simp (config := { maxSteps := 2000000 }) only [go_sem, hG, hP, Nat.reduceEqDiff, ↓reduceIte, reduceCtorEq, Nat.reduceAdd, Nat.reduceSub, Nat.reduceMul, Nat.reduceLT, Nat.reduceLeDiff, Int.reduceAdd, Int.reduceSub, Int.reduceMul, Int.reduceLT, Int.reduceLE, Int.reduceEq, Int.reduceNeg, Int.reduceNe, Int.reduceGE, Int.reduceGT, Nat.reduceBEq, Int.reduceToNat]; all_goals (first | (simp; done) | omega))
  · exact h.elim
end Go.Proofs.YtiakjdcognckpaaE

/-! What the laws of a Duo need. -/
namespace Go.Proofs.YtiakjdcognckpaaE
open Go Go.RowKit
set_option linter.unusedSimpArgs false
set_option linter.unusedVariables false
set_option maxRecDepth 20000
set_option maxHeartbeats 4000000

theorem take_sm {k : Int} {n : Nat} : (sigMarks k n).take n = sigMarks k n := List.take_of_length_le (by rw [sigMarks_len]; omega)
theorem held_sm {n : Nat} : heldSig (sigMarks 1 n) 1 = 1 + 3 * n := by unfold heldSig; rw [sigMarks_len, if_pos rfl]
theorem bb_self {b : Bool} : (b == b) = true := by simp
theorem szStep_len {a : Nat} {n : Int} (h0 : 0 ≤ n) (h : ¬ szStep a n < 0) : (a : Int) ≤ n := by
  unfold szStep at h
  split at h <;> omega
theorem doEv_len {d g : Du} {k p : Int} {b : Bool} (h : doEv d k p = (g, b)) : g.q.length ≤ d.q.length ∨ g.q.length ≤ 40 := by
  unfold doEv at h
  split at h
  · rename_i hc
    simp only [Bool.and_eq_true, decide_eq_true_eq] at hc
    cases h
    exact .inr hc.2
  · cases h; exact .inl (Nat.le_refl _)
end Go.Proofs.YtiakjdcognckpaaE

/-! The code of a function, in the engine's words. -/
namespace Go.Proofs.YtiakjdcognckpaaE
open Go Go.RowKit
@[reducible] def ic25 : IC := (.seq (.ops [⟨some 2, .box (.tmp 0), none⟩, ⟨some 4, .new [(.int .i64 0), (.int .i64 0), (.int .i64 0), (.int .i64 0), (.slice none 0 0)], none⟩]) (.seq (.seq (.ops [⟨some 6, .mov (.tmp 1), none⟩, ⟨some 7, .len (.tmp 6), none⟩, ⟨some 8, .bin .gtr (.tmp 7) (.const (.int .i64 300)), none⟩]) (.cond (.tmp 8) (.seq (.ops [⟨some 9, .bld [(.int .i64 0), (.int .i64 0), (.int .i64 0), (.int .i64 0), (.slice none 0 0)] [], none⟩, ⟨none, .store 5 (.tmp 4) (.tmp 9), none⟩]) .ret) .skip)) (.seq (.ops [⟨some 10, .load 5 true (.tmp 2), none⟩, ⟨some 11, .call 43 [(.tmp 10)], none⟩, ⟨none, .store 5 (.tmp 2) (.tmp 11), none⟩]) (.seq (.seq (.ops [⟨some 5, .mov (.const (.int .i64 0)), none⟩]) (.block 0 (.loop (.seq (.seq (.ops [⟨some 12, .mov (.tmp 5), none⟩, ⟨some 13, .mov (.tmp 1), none⟩, ⟨some 14, .len (.tmp 13), none⟩, ⟨some 15, .bin .lss (.tmp 12) (.tmp 14), none⟩]) (.cond (.tmp 15) .skip (.exit 0))) (.seq (.block 1 (.draw [⟨some 19, .load 5 true (.tmp 2), none⟩, ⟨some 20, .mov (.tmp 1), none⟩, ⟨some 21, .mov (.tmp 5), none⟩, ⟨some 22, .iadr 2 (.tmp 20) (.tmp 21), none⟩, ⟨some 23, .load 2 true (.tmp 22), none⟩, ⟨some 24, .call 21 [(.tmp 19), (.tmp 23)], none⟩, ⟨some 18, .mov (.tmp 24), none⟩, ⟨some 25, .ext (.tmp 18) 0, none⟩, ⟨some 26, .ext (.tmp 18) 1, none⟩, ⟨none, .store 5 (.tmp 2) (.tmp 25), none⟩] (.held ⟨some 19, .load 5 true (.tmp 2), none⟩ (.held ⟨some 20, .mov (.tmp 1), none⟩ (.held ⟨some 21, .mov (.tmp 5), none⟩ (.held ⟨some 22, .iadr 2 (.tmp 20) (.tmp 21), none⟩ (.held ⟨some 23, .load 2 true (.tmp 22), none⟩ (.alt ⟨some 24, .call 21 [(.tmp 19), (.tmp 23)], none⟩ (.held ⟨some 18, .mov (.tmp 24), none⟩ (.held ⟨some 25, .ext (.tmp 18) 0, none⟩ (.held ⟨some 26, .ext (.tmp 18) 1, none⟩ (.alt ⟨none, .store 5 (.tmp 2) (.tmp 25), none⟩ .done .stop)))) .stop)))))))) (.ops [⟨some 16, .mov (.tmp 5), none⟩, ⟨some 17, .bin .add (.tmp 16) (.const (.int .i64 1)), none⟩, ⟨some 5, .mov (.tmp 17), none⟩])))))) (.seq (.ops [⟨some 27, .load 5 true (.tmp 2), none⟩, ⟨none, .store 5 (.tmp 4) (.tmp 27), none⟩]) .ret)))))
@[reducible] def rv25 : List RV := [.cell 4 5 true]
theorem low25 : lowC Try.prog tau Try.f25.ntmps (Try.f25.body.getD .skip) = some (erase ic25) := by kernel_rfl
theorem res25 : lowR Try.prog Try.f25.results.toList = some rv25 := by kernel_rfl
theorem bod25 : Try.f25.body = some (Try.f25.body.getD .skip) := by kernel_rfl
theorem cal25 : callable Try.prog 25 = true := by kernel_rfl

end Go.Proofs.YtiakjdcognckpaaE

/-! The code of a function, in the engine's words. -/
namespace Go.Proofs.YtiakjdcognckpaaE
open Go Go.RowKit
@[reducible] def ic27 : IC := (.seq (.ops [⟨some 2, .box (.tmp 0), none⟩, ⟨some 4, .new [(.int .i64 0), (.int .i64 0), (.int .i64 0), (.int .i64 0), (.slice none 0 0)], none⟩]) (.seq (.seq (.ops [⟨some 7, .mov (.tmp 1), none⟩, ⟨some 8, .len (.tmp 7), none⟩, ⟨some 9, .bin .gtr (.tmp 8) (.const (.int .i64 300)), none⟩]) (.cond (.tmp 9) (.seq (.ops [⟨some 10, .bld [(.int .i64 0), (.int .i64 0), (.int .i64 0), (.int .i64 0), (.slice none 0 0)] [], none⟩, ⟨none, .store 5 (.tmp 4) (.tmp 10), none⟩]) .ret) .skip)) (.seq (.ops [⟨some 11, .load 5 true (.tmp 2), none⟩, ⟨some 12, .call 49 [(.tmp 11)], none⟩, ⟨none, .store 5 (.tmp 2) (.tmp 12), none⟩]) (.seq (.seq (.ops [⟨some 13, .mov (.tmp 1), none⟩, ⟨some 14, .len (.tmp 13), none⟩, ⟨some 15, .mov (.const (.int .i64 0)), none⟩]) (.block 0 (.loop (.seq (.ops [⟨some 16, .bin .lss (.tmp 15) (.tmp 14), none⟩]) (.seq (.cond (.tmp 16) .skip (.exit 0)) (.seq (.block 1 (.seq (.ops [⟨some 17, .iadr 2 (.tmp 13) (.tmp 15), none⟩, ⟨some 18, .load 2 true (.tmp 17), none⟩, ⟨some 6, .new [(.int .i64 0), (.int .i64 0)], none⟩, ⟨none, .store 2 (.tmp 6) (.tmp 18), none⟩]) (.ops [⟨some 20, .load 5 true (.tmp 2), none⟩, ⟨some 21, .load 2 true (.tmp 6), none⟩, ⟨some 22, .call 23 [(.tmp 20), (.tmp 21)], none⟩, ⟨some 19, .mov (.tmp 22), none⟩, ⟨some 23, .ext (.tmp 19) 0, none⟩, ⟨some 24, .ext (.tmp 19) 1, none⟩, ⟨none, .store 5 (.tmp 2) (.tmp 23), none⟩]))) (.ops [⟨some 25, .bin .add (.tmp 15) (.const (.int .i64 1)), none⟩, ⟨some 15, .mov (.tmp 25), none⟩]))))))) (.seq (.ops [⟨some 26, .load 5 true (.tmp 2), none⟩, ⟨none, .store 5 (.tmp 4) (.tmp 26), none⟩]) .ret)))))
@[reducible] def rv27 : List RV := [.cell 4 5 true]
theorem low27 : lowC Try.prog tau Try.f27.ntmps (Try.f27.body.getD .skip) = some (erase ic27) := by kernel_rfl
theorem res27 : lowR Try.prog Try.f27.results.toList = some rv27 := by kernel_rfl
theorem bod27 : Try.f27.body = some (Try.f27.body.getD .skip) := by kernel_rfl
theorem cal27 : callable Try.prog 27 = true := by kernel_rfl

end Go.Proofs.YtiakjdcognckpaaE

/-! RunDuo, of the reference and of the program. -/
namespace Go.Proofs.YtiakjdcognckpaaE
open Go Go.RowKit
set_option linter.unusedSimpArgs false
set_option linter.unusedVariables false
set_option maxRecDepth 20000
set_option maxHeartbeats 4000000

def runF (d : Du) : List Ev → Du
  | [] => d
  | e :: r => runF (doEv d e.kind e.pl).1 r
theorem runF_snoc (d : Du) (l : List Ev) (e : Ev) : runF d (l ++ [e]) = (doEv (runF d l) e.kind e.pl).1 := by
  induction l generalizing d with
  | nil => rfl
  | cons e' r ih => exact ih _
theorem runF_take {d : Du} {l : List Ev} {j : Nat} (h : j < l.length) : runF d (l.take (j + 1)) = (doEv (runF d (l.take j)) (l.getD j ⟨0, 0⟩).kind (l.getD j ⟨0, 0⟩).pl).1 := by
  rw [List.take_succ_eq_append_getElem h, runF_snoc]
  simp [List.getD, List.getElem?_eq_getElem h]
theorem runF_len (l : List Ev) (d : Du) : (runF d l).q.length ≤ d.q.length ∨ (runF d l).q.length ≤ 40 := by
  induction l generalizing d with
  | nil => exact .inl (Nat.le_refl _)
  | cons e r ih =>
    have h1 := ih (doEv d e.kind e.pl).1
    have h2 := doEv_len (d := d) (k := e.kind) (p := e.pl) (g := (doEv d e.kind e.pl).1) (b := (doEv d e.kind e.pl).2) rfl
    show (runF (doEv d e.kind e.pl).1 r).q.length ≤ _ ∨ (runF (doEv d e.kind e.pl).1 r).q.length ≤ _
    omega
def runDu (d : Du) (l : List Ev) : Du := if l.length ≤ 300 then runF d l else ⟨0, 0, 0, 0, []⟩
theorem runDu_len (l : List Ev) (d : Du) : (runDu d l).q.length ≤ d.q.length ∨ (runDu d l).q.length ≤ 40 := by
  unfold runDu; split
  · exact runF_len l d
  · exact .inr (by simp)
def spRunDu : Spec := ⟨fun _ _ => [], fun args objs K => match args, objs with
  | [.agg [.v (.int .i64 a), .v (.int .i64 x), .v (.int .i64 b), .v (.int .i64 y), .rs .sig q], .rs .ev l], [] => (q.length ≤ 1099511627776 ∧ l.length ≤ 1099511627776) ∧ K (duA (runDu ⟨a, x, b, y, q⟩ l)) (duL (runDu ⟨a, x, b, y, q⟩ l)) 1
  | _, _ => False, false⟩
theorem spRunDu_t {L : Hp} {a : List AVal} : Spec.take spRunDu L a = [] := id rfl
theorem spRunDu_k : Spec.keep spRunDu = false := id rfl
theorem spRunDu_f {a} {x} {b} {y} {q} {l} {K : AVal → Hp → Nat → Prop} : Spec.f spRunDu ([.agg [.v (.int .i64 a), .v (.int .i64 x), .v (.int .i64 b), .v (.int .i64 y), .rs .sig q], .rs .ev l]) ([]) K = ((q.length ≤ 1099511627776 ∧ l.length ≤ 1099511627776) ∧ K (duA (runDu ⟨a, x, b, y, q⟩ l)) (duL (runDu ⟨a, x, b, y, q⟩ l)) 1) := id rfl
theorem valid25 : Valid Try.prog 25 spRunDu := by
  refine validI (Γ := lk [(43, spToDu), (21, spDoEv)]) Try.func25 bod25 low25 res25 (good_of ⟨⟨cal43, valid43⟩, ⟨cal21, valid21⟩, trivial⟩) ?_
  intro E args objs K h hE hG hP
  simp only [spRunDu] at h
  split at h
  · refine ⟨by simp [Try.ntmps25], ?_⟩
    rename_i a x b y q l
    obtain ⟨⟨b1, b2⟩, h⟩ := h
    by_cases hl : l.length ≤ 300
    · have hgt : ((l.length : Int) > 300) = False := by apply eq_false; omega
      simp (config := { maxSteps := 2000000 }) only [go_sem, hG, hP, Nat.reduceEqDiff, ↓reduceIte, reduceCtorEq, Nat.reduceAdd, Nat.reduceSub, Nat.reduceMul, Nat.reduceLT, Nat.reduceLeDiff, Int.reduceAdd, Int.reduceSub, Int.reduceMul, Int.reduceLT, Int.reduceLE, Int.reduceEq, Int.reduceNeg, Int.reduceNe, Int.reduceGE, Int.reduceGT, Nat.reduceBEq, Int.reduceToNat,  spToDu_f, spToDu_t, spToDu_k, hgt]
      repeat (refine And.intro (by first | omega | (simp; done) | (simp; omega) | (unfold appRoom; omega)) ?_)
      refine loopI hE (fun p : Nat × Du => ⟨[(1, .rs .ev l), (2, .ptr 0 0), (4, .ptr 1 0), (5, .v (.int .i64 p.1))], [(0, .box [.v (.int .i64 p.2.a), .v (.int .i64 p.2.x), .v (.int .i64 p.2.b), .v (.int .i64 p.2.y), .sub 2 3 0 p.2.q.length]), (1, .box [.v (.int .i64 0), .v (.int .i64 0), .v (.int .i64 0), .v (.int .i64 0), .v (.slice none 0 0)]), (2, .row .sig p.2.q)], 3, Try.f25.ntmps⟩) (fun p => p.1 ≤ l.length ∧ p.2 = runF ⟨a, x, b, y, q⟩ (l.take p.1)) (fun p => l.length - p.1) ⟨(0, ⟨a, x, b, y, q⟩), ⟨Nat.zero_le _, rfl⟩, SubS.weak ?_⟩ ?_
      · simp (config := { maxSteps := 2000000 }) only [go_sem, hG, hP, Nat.reduceEqDiff, ↓reduceIte, reduceCtorEq, Nat.reduceAdd, Nat.reduceSub, Nat.reduceMul, Nat.reduceLT, Nat.reduceLeDiff, Int.reduceAdd, Int.reduceSub, Int.reduceMul, Int.reduceLT, Int.reduceLE, Int.reduceEq, Int.reduceNeg, Int.reduceNe, Int.reduceGE, Int.reduceGT, Nat.reduceBEq, Int.reduceToNat]
        all_goals simp
      · rintro ⟨j, ⟨a', x', b', y', q'⟩⟩ ⟨hj, hr⟩
        dsimp only at hj hr
        have hq := runF_len (l.take j) ⟨a, x, b, y, q⟩
        rw [← hr] at hq
        dsimp only at hq
        rcases hd : doEv ⟨a', x', b', y', q'⟩ (l.getD j ⟨0, 0⟩).kind (l.getD j ⟨0, 0⟩).pl with ⟨⟨a2, x2, b2, y2, q2⟩, ok⟩
        simp (config := { maxSteps := 2000000 }) only [go_sem, hG, hP, Nat.reduceEqDiff, ↓reduceIte, reduceCtorEq, Nat.reduceAdd, Nat.reduceSub, Nat.reduceMul, Nat.reduceLT, Nat.reduceLeDiff, Int.reduceAdd, Int.reduceSub, Int.reduceMul, Int.reduceLT, Int.reduceLE, Int.reduceEq, Int.reduceNeg, Int.reduceNe, Int.reduceGE, Int.reduceGT, Nat.reduceBEq, Int.reduceToNat,  spDoEv_f, spDoEv_t, spDoEv_k, hd, duA_eq, duL_eq]
        (try simp (disch := omega) only [wrap_id])
        refine ⟨fun hlt => ?_, fun hge => ?_⟩
        · repeat (refine And.intro (by first | omega | (simp; done) | (simp; omega) | (unfold appRoom; omega)) ?_)
          refine ⟨(j + 1, ⟨a2, x2, b2, y2, q2⟩), ⟨⟨by dsimp only; omega, by dsimp only; rw [runF_take (by omega), ← hr, hd]⟩, by dsimp only; omega⟩, SubS.weak ?_⟩
          simp (config := { maxSteps := 2000000 }) only [go_sem, hG, hP, Nat.reduceEqDiff, ↓reduceIte, reduceCtorEq, Nat.reduceAdd, Nat.reduceSub, Nat.reduceMul, Nat.reduceLT, Nat.reduceLeDiff, Int.reduceAdd, Int.reduceSub, Int.reduceMul, Int.reduceLT, Int.reduceLE, Int.reduceEq, Int.reduceNeg, Int.reduceNe, Int.reduceGE, Int.reduceGT, Nat.reduceBEq, Int.reduceToNat]
          all_goals simp
        · have e : runDu ⟨a, x, b, y, q⟩ l = ⟨a', x', b', y', q'⟩ := by unfold runDu; rw [if_pos hl, hr, List.take_of_length_le (by omega)]
          rw [e] at h
          refine ⟨_, _, _, ?_, h⟩
          simp only [duA_eq, duL_eq]
          simp (config := { maxSteps := 2000000 }) only [go_sem, hG, hP, Nat.reduceEqDiff, ↓reduceIte, reduceCtorEq, Nat.reduceAdd, Nat.reduceSub, Nat.reduceMul, Nat.reduceLT, Nat.reduceLeDiff, Int.reduceAdd, Int.reduceSub, Int.reduceMul, Int.reduceLT, Int.reduceLE, Int.reduceEq, Int.reduceNeg, Int.reduceNe, Int.reduceGE, Int.reduceGT, Nat.reduceBEq, Int.reduceToNat]
          all_goals simp
    · have hgt : ((l.length : Int) > 300) = True := by apply eq_true; omega
      have e : runDu ⟨a, x, b, y, q⟩ l = ⟨0, 0, 0, 0, []⟩ := if_neg hl
      rw [e] at h
      simp (config := { maxSteps := 2000000 }) only [go_sem, hG, hP, Nat.reduceEqDiff, ↓reduceIte, reduceCtorEq, Nat.reduceAdd, Nat.reduceSub, Nat.reduceMul, Nat.reduceLT, Nat.reduceLeDiff, Int.reduceAdd, Int.reduceSub, Int.reduceMul, Int.reduceLT, Int.reduceLE, Int.reduceEq, Int.reduceNeg, Int.reduceNe, Int.reduceGE, Int.reduceGT, Nat.reduceBEq, Int.reduceToNat,  spToDu_f, spToDu_t, spToDu_k, hgt]
      refine ⟨_, _, _, ?_, h⟩
      simp only [duA_eq, duL_eq]
      simp (config := { maxSteps := 2000000 }) only [go_sem, hG, hP, Nat.reduceEqDiff, ↓reduceIte, reduceCtorEq, Nat.reduceAdd, Nat.reduceSub, Nat.reduceMul, Nat.reduceLT, Nat.reduceLeDiff, Int.reduceAdd, Int.reduceSub, Int.reduceMul, Int.reduceLT, Int.reduceLE, Int.reduceEq, Int.reduceNeg, Int.reduceNe, Int.reduceGE, Int.reduceGT, Nat.reduceBEq, Int.reduceToNat]
      all_goals simp
  · exact h.elim
theorem valid27 : Valid Try.prog 27 spRunDu := by
  refine validI (Γ := lk [(49, spToDu), (23, spDoEv)]) Try.func27 bod27 low27 res27 (good_of ⟨⟨cal49, valid49⟩, ⟨cal23, valid23⟩, trivial⟩) ?_
  intro E args objs K h hE hG hP
  simp only [spRunDu] at h
  split at h
  · refine ⟨by simp [Try.ntmps27], ?_⟩
    rename_i a x b y q l
    obtain ⟨⟨b1, b2⟩, h⟩ := h
    by_cases hl : l.length ≤ 300
    · have hgt : ((l.length : Int) > 300) = False := by apply eq_false; omega
      simp (config := { maxSteps := 2000000 }) only [go_sem, hG, hP, Nat.reduceEqDiff, ↓reduceIte, reduceCtorEq, Nat.reduceAdd, Nat.reduceSub, Nat.reduceMul, Nat.reduceLT, Nat.reduceLeDiff, Int.reduceAdd, Int.reduceSub, Int.reduceMul, Int.reduceLT, Int.reduceLE, Int.reduceEq, Int.reduceNeg, Int.reduceNe, Int.reduceGE, Int.reduceGT, Nat.reduceBEq, Int.reduceToNat,  spToDu_f, spToDu_t, spToDu_k, hgt]
      repeat (refine And.intro (by first | omega | (simp; done) | (simp; omega) | (unfold appRoom; omega)) ?_)
      refine loopI hE (fun p : Nat × Du => ⟨[(2, .ptr 0 0), (4, .ptr 1 0), (13, .rs .ev l), (14, .v (.int .i64 l.length)), (15, .v (.int .i64 p.1))], [(0, .box [.v (.int .i64 p.2.a), .v (.int .i64 p.2.x), .v (.int .i64 p.2.b), .v (.int .i64 p.2.y), .sub 2 3 0 p.2.q.length]), (1, .box [.v (.int .i64 0), .v (.int .i64 0), .v (.int .i64 0), .v (.int .i64 0), .v (.slice none 0 0)]), (2, .row .sig p.2.q)], 3, Try.f27.ntmps⟩) (fun p => p.1 ≤ l.length ∧ p.2 = runF ⟨a, x, b, y, q⟩ (l.take p.1)) (fun p => l.length - p.1) ⟨(0, ⟨a, x, b, y, q⟩), ⟨Nat.zero_le _, rfl⟩, SubS.weak ?_⟩ ?_
      · simp (config := { maxSteps := 2000000 }) only [go_sem, hG, hP, Nat.reduceEqDiff, ↓reduceIte, reduceCtorEq, Nat.reduceAdd, Nat.reduceSub, Nat.reduceMul, Nat.reduceLT, Nat.reduceLeDiff, Int.reduceAdd, Int.reduceSub, Int.reduceMul, Int.reduceLT, Int.reduceLE, Int.reduceEq, Int.reduceNeg, Int.reduceNe, Int.reduceGE, Int.reduceGT, Nat.reduceBEq, Int.reduceToNat]
        all_goals simp
      · rintro ⟨j, ⟨a', x', b', y', q'⟩⟩ ⟨hj, hr⟩
        dsimp only at hj hr
        have hq := runF_len (l.take j) ⟨a, x, b, y, q⟩
        rw [← hr] at hq
        dsimp only at hq
        rcases hd : doEv ⟨a', x', b', y', q'⟩ (l.getD j ⟨0, 0⟩).kind (l.getD j ⟨0, 0⟩).pl with ⟨⟨a2, x2, b2, y2, q2⟩, ok⟩
        simp (config := { maxSteps := 2000000 }) only [go_sem, hG, hP, Nat.reduceEqDiff, ↓reduceIte, reduceCtorEq, Nat.reduceAdd, Nat.reduceSub, Nat.reduceMul, Nat.reduceLT, Nat.reduceLeDiff, Int.reduceAdd, Int.reduceSub, Int.reduceMul, Int.reduceLT, Int.reduceLE, Int.reduceEq, Int.reduceNeg, Int.reduceNe, Int.reduceGE, Int.reduceGT, Nat.reduceBEq, Int.reduceToNat,  spDoEv_f, spDoEv_t, spDoEv_k, hd, duA_eq, duL_eq]
        (try simp (disch := omega) only [wrap_id])
        refine ⟨fun hlt => ?_, fun hge => ?_⟩
        · repeat (refine And.intro (by first | omega | (simp; done) | (simp; omega) | (unfold appRoom; omega)) ?_)
          refine ⟨(j + 1, ⟨a2, x2, b2, y2, q2⟩), ⟨⟨by dsimp only; omega, by dsimp only; rw [runF_take (by omega), ← hr, hd]⟩, by dsimp only; omega⟩, SubS.weak ?_⟩
          simp (config := { maxSteps := 2000000 }) only [go_sem, hG, hP, Nat.reduceEqDiff, ↓reduceIte, reduceCtorEq, Nat.reduceAdd, Nat.reduceSub, Nat.reduceMul, Nat.reduceLT, Nat.reduceLeDiff, Int.reduceAdd, Int.reduceSub, Int.reduceMul, Int.reduceLT, Int.reduceLE, Int.reduceEq, Int.reduceNeg, Int.reduceNe, Int.reduceGE, Int.reduceGT, Nat.reduceBEq, Int.reduceToNat]
          all_goals simp
        · have e : runDu ⟨a, x, b, y, q⟩ l = ⟨a', x', b', y', q'⟩ := by unfold runDu; rw [if_pos hl, hr, List.take_of_length_le (by omega)]
          rw [e] at h
          refine ⟨_, _, _, ?_, h⟩
          simp only [duA_eq, duL_eq]
          simp (config := { maxSteps := 2000000 }) only [go_sem, hG, hP, Nat.reduceEqDiff, ↓reduceIte, reduceCtorEq, Nat.reduceAdd, Nat.reduceSub, Nat.reduceMul, Nat.reduceLT, Nat.reduceLeDiff, Int.reduceAdd, Int.reduceSub, Int.reduceMul, Int.reduceLT, Int.reduceLE, Int.reduceEq, Int.reduceNeg, Int.reduceNe, Int.reduceGE, Int.reduceGT, Nat.reduceBEq, Int.reduceToNat]
          all_goals simp
    · have hgt : ((l.length : Int) > 300) = True := by apply eq_true; omega
      have e : runDu ⟨a, x, b, y, q⟩ l = ⟨0, 0, 0, 0, []⟩ := if_neg hl
      rw [e] at h
      simp (config := { maxSteps := 2000000 }) only [go_sem, hG, hP, Nat.reduceEqDiff, ↓reduceIte, reduceCtorEq, Nat.reduceAdd, Nat.reduceSub, Nat.reduceMul, Nat.reduceLT, Nat.reduceLeDiff, Int.reduceAdd, Int.reduceSub, Int.reduceMul, Int.reduceLT, Int.reduceLE, Int.reduceEq, Int.reduceNeg, Int.reduceNe, Int.reduceGE, Int.reduceGT, Nat.reduceBEq, Int.reduceToNat,  spToDu_f, spToDu_t, spToDu_k, hgt]
      refine ⟨_, _, _, ?_, h⟩
      simp only [duA_eq, duL_eq]
      simp (config := { maxSteps := 2000000 }) only [go_sem, hG, hP, Nat.reduceEqDiff, ↓reduceIte, reduceCtorEq, Nat.reduceAdd, Nat.reduceSub, Nat.reduceMul, Nat.reduceLT, Nat.reduceLeDiff, Int.reduceAdd, Int.reduceSub, Int.reduceMul, Int.reduceLT, Int.reduceLE, Int.reduceEq, Int.reduceNeg, Int.reduceNe, Int.reduceGE, Int.reduceGT, Nat.reduceBEq, Int.reduceToNat]
      all_goals simp
  · exact h.elim
end Go.Proofs.YtiakjdcognckpaaE

/-! The code of a function, in the engine's words. -/
namespace Go.Proofs.YtiakjdcognckpaaE
open Go Go.RowKit
@[reducible] def ic44 : IC := (.seq (.ops [⟨some 1, .box (.tmp 0), none⟩, ⟨some 2, .new [(.int .i64 0), (.int .i64 0), (.int .i64 0), (.int .i64 0), (.slice none 0 0)], none⟩]) (.seq (.block 0 (.loop (.seq (.seq (.ops [⟨some 3, .fadr 4 (.tmp 1), none⟩, ⟨some 4, .load 1 false (.tmp 3), none⟩, ⟨some 5, .len (.tmp 4), none⟩, ⟨some 6, .bin .gtr (.tmp 5) (.const (.int .i64 0)), none⟩]) (.cond (.tmp 6) .skip (.exit 0))) (.block 1 (.ops [⟨some 7, .load 5 true (.tmp 1), none⟩, ⟨some 8, .call 68 [(.tmp 7), (.const (.int .i64 5)), (.const (.int .i64 0))], none⟩, ⟨none, .store 5 (.tmp 1) (.tmp 8), none⟩]))))) (.seq (.ops [⟨some 9, .load 5 true (.tmp 1), none⟩, ⟨none, .store 5 (.tmp 2) (.tmp 9), none⟩]) .ret)))
@[reducible] def rv44 : List RV := [.cell 2 5 true]
theorem low44 : lowC Try.prog tau Try.f44.ntmps (Try.f44.body.getD .skip) = some (erase ic44) := by kernel_rfl
theorem res44 : lowR Try.prog Try.f44.results.toList = some rv44 := by kernel_rfl
theorem bod44 : Try.f44.body = some (Try.f44.body.getD .skip) := by kernel_rfl
theorem cal44 : callable Try.prog 44 = true := by kernel_rfl

end Go.Proofs.YtiakjdcognckpaaE

/-! The code of a function, in the engine's words. -/
namespace Go.Proofs.YtiakjdcognckpaaE
open Go Go.RowKit
@[reducible] def ic50 : IC := (.block 0 (.loop (.seq (.seq (.ops [⟨some 1, .fadr 4 (.tmp 0), none⟩, ⟨some 2, .load 1 false (.tmp 1), none⟩, ⟨some 3, .len (.tmp 2), none⟩, ⟨some 4, .bin .gtr (.tmp 3) (.const (.int .i64 0)), none⟩]) (.cond (.tmp 4) .skip (.exit 0))) (.block 1 (.ops [⟨some 6, .load 5 true (.tmp 0), none⟩, ⟨some 7, .bld [(.int .i64 0), (.int .i64 0)] [(0, 1, (.const (.int .i64 5)))], none⟩, ⟨some 8, .call 23 [(.tmp 6), (.tmp 7)], none⟩, ⟨some 5, .mov (.tmp 8), none⟩, ⟨some 9, .ext (.tmp 5) 0, none⟩, ⟨some 10, .ext (.tmp 5) 1, none⟩, ⟨none, .store 5 (.tmp 0) (.tmp 9), none⟩])))))
@[reducible] def rv50 : List RV := []
theorem low50 : lowC Try.prog tau Try.f50.ntmps (Try.f50.body.getD .skip) = some (erase ic50) := by kernel_rfl
theorem res50 : lowR Try.prog Try.f50.results.toList = some rv50 := by kernel_rfl
theorem bod50 : Try.f50.body = some (Try.f50.body.getD .skip) := by kernel_rfl
theorem cal50 : callable Try.prog 50 = true := by kernel_rfl

end Go.Proofs.YtiakjdcognckpaaE

/-! All signals are carried. -/
namespace Go.Proofs.YtiakjdcognckpaaE
open Go Go.RowKit
set_option linter.unusedSimpArgs false
set_option linter.unusedVariables false
set_option maxRecDepth 20000
set_option maxHeartbeats 4000000

def sigW (s : Sig) : Nat := if s.kind = 1 then 3 else if s.kind = 3 then 2 else 1
def wq : List Sig → Nat
  | [] => 0
  | s :: r => sigW s + wq r
theorem wq_app (a b : List Sig) : wq (a ++ b) = wq a + wq b := by
  induction a with
  | nil => simp [wq]
  | cons n r ih => simp only [List.cons_append, wq, ih]; omega
theorem sigW_bd (s : Sig) : 1 ≤ sigW s ∧ sigW s ≤ 3 := by unfold sigW; split <;> (try split) <;> omega
theorem wq_bd (q : List Sig) : q.length ≤ wq q ∧ wq q ≤ 3 * q.length := by
  induction q with
  | nil => simp [wq]
  | cons n r ih => simp only [List.length_cons, wq]; have := sigW_bd n; omega
theorem arr_w (d : Du) (s : Sig) : wq (arr d s).q + 1 ≤ wq d.q + sigW s := by
  unfold arr
  repeat' split
  all_goals simp_all [wq_app, wq, sigW]
  all_goals (try (have := sigW_bd s; unfold sigW at this; omega))
theorem arr_x {d : Du} {s : Sig} (hs : s.call ≤ d.x) : (arr d s).x = d.x := by
  unfold arr
  repeat' split
  all_goals first | rfl | omega | (dsimp only; omega)
theorem arr_head {d : Du} {s : Sig} (h : headP d.a d.x d.b d.y) (hs : (0 ≤ s.call ∧ s.call ≤ d.x)) : headP (arr d s).a (arr d s).x (arr d s).b (arr d s).y := by
  unfold headP at *
  unfold arr
  repeat' split
  all_goals first | exact h | omega | (dsimp only; omega)
theorem arr_all {d : Du} {s : Sig} (h : headP d.a d.x d.b d.y) (hs : (0 ≤ s.call ∧ s.call ≤ d.x)) (hq : d.q.all (sigOk d.x) = true) : (arr d s).q.all (sigOk d.x) = true := by
  unfold headP at h
  unfold arr
  repeat' split
  all_goals first
    | exact hq
    | (dsimp only; rw [List.all_append, hq, Bool.true_and, List.all_cons, List.all_nil, Bool.and_true]; exact sigOk_yes (by dsimp only; omega))
theorem arr_len (d : Du) (s : Sig) : (arr d s).q.length ≤ d.q.length + 1 := by
  cases h : arrG d s
  · rw [arrG_no h]; omega
  · rw [arrG_yes h]; omega
def way0 (d : Du) : Du := wayD d 5 0
theorem way0_eq {a x b y : Int} {s : Sig} {r : List Sig} : way0 ⟨a, x, b, y, s :: r⟩ = arr ⟨a, x, b, y, r⟩ s := by
  unfold way0 wayD
  rw [if_neg (by decide), if_pos rfl]
  rfl
theorem duOk_all {d : Du} (h : duOk d = true) : d.q.all (sigOk d.x) = true := by
  simp only [duOk, Bool.and_eq_true] at h
  exact h.1.2
theorem duOk_mk {d : Du} (h1 : headP d.a d.x d.b d.y) (h2 : d.q.all (sigOk d.x) = true) (h3 : d.q.length ≤ 40) : duOk d = true := duOk_yes h1 h2 h3
theorem way0_ok {d : Du} (h : duOk d = true) (hq : d.q ≠ []) : duOk (way0 d) = true ∧ wq (way0 d).q + 1 ≤ wq d.q := by
  obtain ⟨a, x, b, y, q⟩ := d
  cases q with
  | nil => exact absurd rfl hq
  | cons s r =>
    have hH := duOk_head h
    have hA := duOk_all h
    dsimp only at hH hA
    rw [List.all_cons, Bool.and_eq_true] at hA
    have hs := duOk_sig h (i := 0) (by simp)
    simp only [List.getD_cons_zero] at hs
    rw [way0_eq]
    have e := arr_x (d := ⟨a, x, b, y, r⟩) (s := s) hs.2.2.2
    refine ⟨duOk_mk (arr_head (d := ⟨a, x, b, y, r⟩) hH.1 hs.2.2) ?_ ?_, ?_⟩
    · rw [e]; exact arr_all (d := ⟨a, x, b, y, r⟩) hH.1 hs.2.2 hA.2
    · have h1 := arr_len ⟨a, x, b, y, r⟩ s
      have h2 := hH.2
      rw [List.length_cons] at h2
      dsimp only at h1; omega
    · have := arr_w ⟨a, x, b, y, r⟩ s
      simp only [wq] at this ⊢; omega
theorem way0_do {d : Du} (h : duOk d = true) (hq : d.q ≠ []) : doEv d 5 0 = (way0 d, true) := by
  have hl : 0 < d.q.length := List.length_pos_iff.2 hq
  have hok : evOk d 5 0 = true := by
    unfold evOk
    rw [if_neg (by decide), if_neg (by decide), if_neg (by decide), if_neg (by decide), if_pos (by decide)]
    exact decide_eq_true (by omega)
  have hD : evD d 5 0 = way0 d := by
    unfold evD
    rw [hok, if_neg (by simp), if_neg (by decide), if_neg (by decide), if_neg (by decide), if_neg (by decide)]; rfl
  rw [doEv_yes h hok (by rw [hD]; exact (duOk_head (way0_ok h hq).1).2), hD]
def carF : Nat → Du → Du
  | 0, d => d
  | k + 1, d => if d.q = [] then d else carF k (way0 d)
theorem carF_done {d : Du} (h : d.q = []) (k : Nat) : carF k d = d := by
  cases k with
  | zero => rfl
  | succ k => exact if_pos h
theorem carF_step {d : Du} {k : Nat} (h : d.q ≠ []) : carF (k + 1) d = carF k (way0 d) := if_neg h
def carD (d : Du) : Du := carF (wq d.q) d
theorem carF_ok : ∀ (k : Nat) (d : Du), duOk d = true → wq d.q ≤ k → duOk (carF k d) = true ∧ (carF k d).q = []
  | 0, d, h, hw => by
    have := wq_bd d.q
    exact ⟨h, List.length_eq_zero_iff.1 (show d.q.length = 0 by omega)⟩
  | k + 1, d, h, hw => by
    by_cases hq : d.q = []
    · rw [carF_done hq]; exact ⟨h, hq⟩
    · rw [carF_step hq]
      have := way0_ok h hq
      exact carF_ok k _ this.1 (by omega)
theorem carD_ok {d : Du} (h : duOk d = true) : duOk (carD d) = true ∧ (carD d).q = [] := carF_ok _ d h (Nat.le_refl _)
theorem timer_ok {d : Du} {p : Int} (h : duOk d = true) (hl : d.q.length < 40) : duOk (timer d p) = true ∧ (timer d p).q.length ≤ d.q.length + 1 := by
  obtain ⟨hH, hn⟩ := duOk_head h
  have hA := duOk_all h
  have hH' := hH
  unfold headP at hH'
  unfold timer
  repeat' split
  all_goals first
    | exact ⟨h, Nat.le_succ _⟩
    | (refine ⟨duOk_mk hH ?_ (by simp; omega), by simp⟩
       dsimp only; rw [List.all_append, hA, Bool.true_and, List.all_cons, List.all_nil, Bool.and_true]; exact sigOk_yes (by dsimp only; omega))
theorem timer_do {d : Du} {p : Int} (h : duOk d = true) (hl : d.q.length < 40) (hp : p = 0 ∨ p = 1) : doEv d 4 p = (timer d p, true) := by
  have hok : evOk d 4 p = true := by
    unfold evOk
    rw [if_neg (by decide), if_neg (by decide), if_neg (by decide), if_pos rfl]
    exact decide_eq_true hp
  have hD : evD d 4 p = timer d p := by
    unfold evD
    rw [hok, if_neg (by simp), if_neg (by decide), if_neg (by decide), if_neg (by decide), if_pos rfl]
  have := timer_ok (p := p) h hl
  rw [doEv_yes h hok (by rw [hD]; omega), hD]
def roundD (d : Du) : Du := timer (timer (carD d) 0) 1
theorem roundD_ok {d : Du} (h : duOk d = true) : duOk (roundD d) = true := by
  have h1 := carD_ok h
  have h2 := timer_ok (p := 0) h1.1 (by rw [h1.2]; decide)
  rw [h1.2] at h2
  have h3 := timer_ok (p := 1) h2.1 (by have := h2.2; simp at this; omega)
  exact h3.1
def roundsD : Nat → Du → Du
  | 0, d => d
  | n + 1, d => roundD (roundsD n d)
theorem roundsD_ok {d : Du} (h : duOk d = true) : ∀ n, duOk (roundsD n d) = true
  | 0 => h
  | n + 1 => roundD_ok (roundsD_ok h n)
def settleD (d : Du) (n : Int) : Du := if duOk d = true ∧ 0 ≤ n ∧ n ≤ 20 then carD (roundsD n.toNat d) else ⟨0, 0, 0, 0, []⟩
theorem settleD_q (d : Du) (n : Int) : (settleD d n).q = [] := by
  unfold settleD; split
  · rename_i h; exact (carD_ok (roundsD_ok h.1 _)).2
  · rfl
end Go.Proofs.YtiakjdcognckpaaE

/-! All signals are carried: the reference's loop and the program's closure. -/
namespace Go.Proofs.YtiakjdcognckpaaE
open Go Go.RowKit
set_option linter.unusedSimpArgs false
set_option linter.unusedVariables false
set_option maxRecDepth 20000
set_option maxHeartbeats 4000000

theorem carF_more {d : Du} {k k' : Nat} (h : duOk d = true) (h1 : wq d.q ≤ k) (h2 : wq d.q ≤ k') : carF k d = carF k' d := by
  induction k generalizing d k' with
  | zero =>
    have := wq_bd d.q
    have hq : d.q = [] := List.length_eq_zero_iff.1 (show d.q.length = 0 by omega)
    rw [carF_done hq, carF_done hq]
  | succ k ih =>
    by_cases hq : d.q = []
    · rw [carF_done hq, carF_done hq]
    · have h3 := way0_ok h hq
      obtain ⟨k2, rfl⟩ : ∃ k2, k' = k2 + 1 := ⟨k' - 1, by omega⟩
      rw [carF_step hq, carF_step hq]
      exact ih h3.1 (by omega) (by omega)
def spCarr : Spec := ⟨fun _ => takeA5, fun args objs K => match args, objs with
  | [.agg [.v (.int .i64 a), .v (.int .i64 x), .v (.int .i64 b), .v (.int .i64 y), .sub 0 3 0 n]], [.row .sig q] => (n = q.length ∧ duOk ⟨a, x, b, y, q⟩ = true) ∧
      impK (q = []) (K (.agg [.v (.int .i64 a), .v (.int .i64 x), .v (.int .i64 b), .v (.int .i64 y), .sub 0 3 0 0]) [(0, .row .sig ([] : List Sig))] 1) ∧ impK (¬ q = []) (K (.agg [.v (.int .i64 (carD ⟨a, x, b, y, q⟩).a), .v (.int .i64 (carD ⟨a, x, b, y, q⟩).x), .v (.int .i64 (carD ⟨a, x, b, y, q⟩).b), .v (.int .i64 (carD ⟨a, x, b, y, q⟩).y), .sub 1 3 0 0]) [(1, .row .sig ([] : List Sig))] 2)
  | _, _ => False, false⟩
theorem spCarr_t {L : Hp} {a : List AVal} : Spec.take spCarr L a = takeA5 a := id rfl
theorem spCarr_k : Spec.keep spCarr = false := id rfl
theorem spCarr_f {a} {x} {b} {y} {n} {q} {K : AVal → Hp → Nat → Prop} : Spec.f spCarr ([.agg [.v (.int .i64 a), .v (.int .i64 x), .v (.int .i64 b), .v (.int .i64 y), .sub 0 3 0 n]]) ([.row .sig q]) K = ((n = q.length ∧ duOk ⟨a, x, b, y, q⟩ = true) ∧
      impK (q = []) (K (.agg [.v (.int .i64 a), .v (.int .i64 x), .v (.int .i64 b), .v (.int .i64 y), .sub 0 3 0 0]) [(0, .row .sig ([] : List Sig))] 1) ∧ impK (¬ q = []) (K (.agg [.v (.int .i64 (carD ⟨a, x, b, y, q⟩).a), .v (.int .i64 (carD ⟨a, x, b, y, q⟩).x), .v (.int .i64 (carD ⟨a, x, b, y, q⟩).b), .v (.int .i64 (carD ⟨a, x, b, y, q⟩).y), .sub 1 3 0 0]) [(1, .row .sig ([] : List Sig))] 2)) := id rfl
theorem valid44 : Valid Try.prog 44 spCarr := by
  refine validI (Γ := lk [(68, spWay)]) Try.func44 bod44 low44 res44 (good_of ⟨⟨cal68, valid68⟩, trivial⟩) ?_
  intro E args objs K h hE hG hP
  simp only [spCarr] at h
  split at h
  · refine ⟨by simp [Try.ntmps44], ?_⟩
    rename_i a x b y n q
    obtain ⟨⟨rfl, hd⟩, h⟩ := h
    simp (config := { maxSteps := 2000000 }) only [go_sem, hG, hP, Nat.reduceEqDiff, ↓reduceIte, reduceCtorEq, Nat.reduceAdd, Nat.reduceSub, Nat.reduceMul, Nat.reduceLT, Nat.reduceLeDiff, Int.reduceAdd, Int.reduceSub, Int.reduceMul, Int.reduceLT, Int.reduceLE, Int.reduceEq, Int.reduceNeg, Int.reduceNe, Int.reduceGE, Int.reduceGT, Nat.reduceBEq, Int.reduceToNat]
    refine loopI hE (fun i : Option Du => match i with | none => ⟨[(1, .ptr 1 0), (2, .ptr 2 0)], [(0, .row .sig q), (1, .box [.v (.int .i64 a), .v (.int .i64 x), .v (.int .i64 b), .v (.int .i64 y), .sub 0 3 0 q.length]), (2, .box [.v (.int .i64 0), .v (.int .i64 0), .v (.int .i64 0), .v (.int .i64 0), .v (.slice none 0 0)])], 3, Try.f44.ntmps⟩ | some d => ⟨[(1, .ptr 1 0), (2, .ptr 2 0)], [(1, .box [.v (.int .i64 d.a), .v (.int .i64 d.x), .v (.int .i64 d.b), .v (.int .i64 d.y), .sub 3 3 0 d.q.length]), (2, .box [.v (.int .i64 0), .v (.int .i64 0), .v (.int .i64 0), .v (.int .i64 0), .v (.slice none 0 0)]), (3, .row .sig d.q)], 4, Try.f44.ntmps⟩) (fun i => match i with | none => True | some d => duOk d = true ∧ ¬ q = [] ∧ ∃ k, wq d.q ≤ k ∧ carF k d = carD ⟨a, x, b, y, q⟩) (fun i => match i with | none => wq q + 1 | some d => wq d.q) ⟨none, trivial, SubS.weak ?_⟩ ?_
    · simp (config := { maxSteps := 2000000 }) only [go_sem, hG, hP, Nat.reduceEqDiff, ↓reduceIte, reduceCtorEq, Nat.reduceAdd, Nat.reduceSub, Nat.reduceMul, Nat.reduceLT, Nat.reduceLeDiff, Int.reduceAdd, Int.reduceSub, Int.reduceMul, Int.reduceLT, Int.reduceLE, Int.reduceEq, Int.reduceNeg, Int.reduceNe, Int.reduceGE, Int.reduceGT, Nat.reduceBEq, Int.reduceToNat]
      all_goals simp
    · have key : ∀ (a' x' b' y' : Int) (q' : List Sig), duOk ⟨a', x', b', y', q'⟩ = true → ¬ q' = [] → ∃ a2 x2 b2 y2 q2, wayD ⟨a', x', b', y', q'⟩ 5 0 = ⟨a2, x2, b2, y2, q2⟩ ∧ doEv ⟨a', x', b', y', q'⟩ 5 0 = (⟨a2, x2, b2, y2, q2⟩, true) ∧ duOk ⟨a2, x2, b2, y2, q2⟩ = true ∧ wq q2 + 1 ≤ wq q' := by
        intro a' x' b' y' q' hd' hq'
        rcases hv : wayD ⟨a', x', b', y', q'⟩ 5 0 with ⟨a2, x2, b2, y2, q2⟩
        have h1 := way0_ok hd' hq'
        have h2 := way0_do hd' hq'
        rw [show way0 ⟨a', x', b', y', q'⟩ = ⟨a2, x2, b2, y2, q2⟩ from hv] at h1 h2
        exact ⟨_, _, _, _, _, rfl, h2, h1.1, h1.2⟩
      intro i hi
      cases i with
      | none =>
        dsimp only
        by_cases hq : q = []
        · subst hq
          simp (config := { maxSteps := 2000000 }) only [go_sem, hG, hP, Nat.reduceEqDiff, ↓reduceIte, reduceCtorEq, Nat.reduceAdd, Nat.reduceSub, Nat.reduceMul, Nat.reduceLT, Nat.reduceLeDiff, Int.reduceAdd, Int.reduceSub, Int.reduceMul, Int.reduceLT, Int.reduceLE, Int.reduceEq, Int.reduceNeg, Int.reduceNe, Int.reduceGE, Int.reduceGT, Nat.reduceBEq, Int.reduceToNat,  spWay_f, spWay_t, spWay_k, takeA5_eq]
          refine ⟨_, _, _, ?_, h.1 rfl⟩
          simp (config := { maxSteps := 2000000 }) only [go_sem, hG, hP, Nat.reduceEqDiff, ↓reduceIte, reduceCtorEq, Nat.reduceAdd, Nat.reduceSub, Nat.reduceMul, Nat.reduceLT, Nat.reduceLeDiff, Int.reduceAdd, Int.reduceSub, Int.reduceMul, Int.reduceLT, Int.reduceLE, Int.reduceEq, Int.reduceNeg, Int.reduceNe, Int.reduceGE, Int.reduceGT, Nat.reduceBEq, Int.reduceToNat]
        · obtain ⟨a2, x2, b2, y2, q2, hv, hv2, hd2, hw2⟩ := key a x b y q hd hq
          have hsg := duOk_sig hd (i := 0) (List.length_pos_iff.2 hq)
          have hl := (duOk_head hd).2
          dsimp only at hsg hl
          have hl0 : 0 < q.length := List.length_pos_iff.2 hq
          have hgt : ((q.length : Int) > 0) = True := by apply eq_true; omega
          simp (config := { maxSteps := 2000000 }) only [go_sem, hG, hP, Nat.reduceEqDiff, ↓reduceIte, reduceCtorEq, Nat.reduceAdd, Nat.reduceSub, Nat.reduceMul, Nat.reduceLT, Nat.reduceLeDiff, Int.reduceAdd, Int.reduceSub, Int.reduceMul, Int.reduceLT, Int.reduceLE, Int.reduceEq, Int.reduceNeg, Int.reduceNe, Int.reduceGE, Int.reduceGT, Nat.reduceBEq, Int.reduceToNat,  spWay_f, spWay_t, spWay_k, takeA5_eq, hv, hv2, hgt, duA_eq, duL_eq]
          repeat' (first | (refine And.intro ?_ ?_) | (with_reducible intro _))
          all_goals try omega
          refine ⟨some ⟨a2, x2, b2, y2, q2⟩, ⟨⟨hd2, hq, wq q2, Nat.le_refl _, ?_⟩, by dsimp only; omega⟩, SubS.weak ?_⟩
          · have e : carD ⟨a, x, b, y, q⟩ = carF (wq q - 1) ⟨a2, x2, b2, y2, q2⟩ := by
              unfold carD
              obtain ⟨k, hk⟩ : ∃ k, wq q = k + 1 := ⟨wq q - 1, by omega⟩
              show carF (wq q) _ = _
              rw [hk, carF_step (d := ⟨a, x, b, y, q⟩) hq, show way0 ⟨a, x, b, y, q⟩ = ⟨a2, x2, b2, y2, q2⟩ from hv]; rfl
            rw [e]
            exact carF_more hd2 (Nat.le_refl _) (by dsimp only; omega)
          · simp (config := { maxSteps := 2000000 }) only [go_sem, hG, hP, Nat.reduceEqDiff, ↓reduceIte, reduceCtorEq, Nat.reduceAdd, Nat.reduceSub, Nat.reduceMul, Nat.reduceLT, Nat.reduceLeDiff, Int.reduceAdd, Int.reduceSub, Int.reduceMul, Int.reduceLT, Int.reduceLE, Int.reduceEq, Int.reduceNeg, Int.reduceNe, Int.reduceGE, Int.reduceGT, Nat.reduceBEq, Int.reduceToNat]
            all_goals simp
      | some d =>
        obtain ⟨a', x', b', y', q'⟩ := d
        obtain ⟨hd', hqn, k, hk, he⟩ := hi
        dsimp only at hk
        dsimp only
        by_cases hq : q' = []
        · subst hq
          simp (config := { maxSteps := 2000000 }) only [go_sem, hG, hP, Nat.reduceEqDiff, ↓reduceIte, reduceCtorEq, Nat.reduceAdd, Nat.reduceSub, Nat.reduceMul, Nat.reduceLT, Nat.reduceLeDiff, Int.reduceAdd, Int.reduceSub, Int.reduceMul, Int.reduceLT, Int.reduceLE, Int.reduceEq, Int.reduceNeg, Int.reduceNe, Int.reduceGE, Int.reduceGT, Nat.reduceBEq, Int.reduceToNat,  spWay_f, spWay_t, spWay_k, takeA5_eq]
          rw [carF_done (d := ⟨a', x', b', y', []⟩) rfl] at he
          have hh := h.2 hqn
          rw [← he] at hh
          refine ⟨_, _, _, ?_, hh⟩
          simp (config := { maxSteps := 2000000 }) only [go_sem, hG, hP, Nat.reduceEqDiff, ↓reduceIte, reduceCtorEq, Nat.reduceAdd, Nat.reduceSub, Nat.reduceMul, Nat.reduceLT, Nat.reduceLeDiff, Int.reduceAdd, Int.reduceSub, Int.reduceMul, Int.reduceLT, Int.reduceLE, Int.reduceEq, Int.reduceNeg, Int.reduceNe, Int.reduceGE, Int.reduceGT, Nat.reduceBEq, Int.reduceToNat]
          all_goals simp
        · obtain ⟨a2, x2, b2, y2, q2, hv, hv2, hd2, hw2⟩ := key a' x' b' y' q' hd' hq
          have hsg := duOk_sig hd' (i := 0) (List.length_pos_iff.2 hq)
          have hl := (duOk_head hd').2
          dsimp only at hsg hl
          have hl0 : 0 < q'.length := List.length_pos_iff.2 hq
          have hgt : ((q'.length : Int) > 0) = True := by apply eq_true; omega
          simp (config := { maxSteps := 2000000 }) only [go_sem, hG, hP, Nat.reduceEqDiff, ↓reduceIte, reduceCtorEq, Nat.reduceAdd, Nat.reduceSub, Nat.reduceMul, Nat.reduceLT, Nat.reduceLeDiff, Int.reduceAdd, Int.reduceSub, Int.reduceMul, Int.reduceLT, Int.reduceLE, Int.reduceEq, Int.reduceNeg, Int.reduceNe, Int.reduceGE, Int.reduceGT, Nat.reduceBEq, Int.reduceToNat,  spWay_f, spWay_t, spWay_k, takeA5_eq, hv, hv2, hgt, duA_eq, duL_eq]
          repeat' (first | (refine And.intro ?_ ?_) | (with_reducible intro _))
          all_goals try omega
          obtain ⟨k', rfl⟩ : ∃ k', k = k' + 1 := ⟨k - 1, by omega⟩
          rw [carF_step (d := ⟨a', x', b', y', q'⟩) hq, show way0 ⟨a', x', b', y', q'⟩ = ⟨a2, x2, b2, y2, q2⟩ from hv] at he
          refine ⟨some ⟨a2, x2, b2, y2, q2⟩, ⟨⟨hd2, hqn, k', by dsimp only; omega, he⟩, by dsimp only; omega⟩, SubS.weak ?_⟩
          simp (config := { maxSteps := 2000000 }) only [go_sem, hG, hP, Nat.reduceEqDiff, ↓reduceIte, reduceCtorEq, Nat.reduceAdd, Nat.reduceSub, Nat.reduceMul, Nat.reduceLT, Nat.reduceLeDiff, Int.reduceAdd, Int.reduceSub, Int.reduceMul, Int.reduceLT, Int.reduceLE, Int.reduceEq, Int.reduceNeg, Int.reduceNe, Int.reduceGE, Int.reduceGT, Nat.reduceBEq, Int.reduceToNat]
          all_goals simp
  · exact h.elim
def spCarrB : Spec := ⟨takeBoxH, fun args objs K => match args, objs with
  | [.ptr 0 0], [.box [.v (.int .i64 a), .v (.int .i64 x), .v (.int .i64 b), .v (.int .i64 y), .sub 1 3 0 n], .row .sig q] => (n = q.length ∧ duOk ⟨a, x, b, y, q⟩ = true) ∧
      impK (q = []) (K (.tup []) [(0, .box [.v (.int .i64 a), .v (.int .i64 x), .v (.int .i64 b), .v (.int .i64 y), .sub 1 3 0 0]), (1, .row .sig ([] : List Sig))] 2) ∧ impK (¬ q = []) (K (.tup []) [(0, .box [.v (.int .i64 (carD ⟨a, x, b, y, q⟩).a), .v (.int .i64 (carD ⟨a, x, b, y, q⟩).x), .v (.int .i64 (carD ⟨a, x, b, y, q⟩).b), .v (.int .i64 (carD ⟨a, x, b, y, q⟩).y), .sub 2 3 0 0]), (2, .row .sig ([] : List Sig))] 3)
  | _, _ => False, false⟩
theorem spCarrB_t {L : Hp} {a : List AVal} : Spec.take spCarrB L a = takeBoxH L a := id rfl
theorem spCarrB_k : Spec.keep spCarrB = false := id rfl
theorem spCarrB_f {a} {x} {b} {y} {n} {q} {K : AVal → Hp → Nat → Prop} : Spec.f spCarrB ([.ptr 0 0]) ([.box [.v (.int .i64 a), .v (.int .i64 x), .v (.int .i64 b), .v (.int .i64 y), .sub 1 3 0 n], .row .sig q]) K = ((n = q.length ∧ duOk ⟨a, x, b, y, q⟩ = true) ∧
      impK (q = []) (K (.tup []) [(0, .box [.v (.int .i64 a), .v (.int .i64 x), .v (.int .i64 b), .v (.int .i64 y), .sub 1 3 0 0]), (1, .row .sig ([] : List Sig))] 2) ∧ impK (¬ q = []) (K (.tup []) [(0, .box [.v (.int .i64 (carD ⟨a, x, b, y, q⟩).a), .v (.int .i64 (carD ⟨a, x, b, y, q⟩).x), .v (.int .i64 (carD ⟨a, x, b, y, q⟩).b), .v (.int .i64 (carD ⟨a, x, b, y, q⟩).y), .sub 2 3 0 0]), (2, .row .sig ([] : List Sig))] 3)) := id rfl
theorem valid50 : Valid Try.prog 50 spCarrB := by
  refine validI (Γ := lk [(23, spDoEv)]) Try.func50 bod50 low50 res50 (good_of ⟨⟨cal23, valid23⟩, trivial⟩) ?_
  intro E args objs K h hE hG hP
  simp only [spCarrB] at h
  split at h
  · refine ⟨by simp [Try.ntmps50], ?_⟩
    rename_i a x b y n q
    obtain ⟨⟨rfl, hd⟩, h⟩ := h
    simp (config := { maxSteps := 2000000 }) only [go_sem, hG, hP, Nat.reduceEqDiff, ↓reduceIte, reduceCtorEq, Nat.reduceAdd, Nat.reduceSub, Nat.reduceMul, Nat.reduceLT, Nat.reduceLeDiff, Int.reduceAdd, Int.reduceSub, Int.reduceMul, Int.reduceLT, Int.reduceLE, Int.reduceEq, Int.reduceNeg, Int.reduceNe, Int.reduceGE, Int.reduceGT, Nat.reduceBEq, Int.reduceToNat]
    refine loopI hE (fun i : Option Du => match i with | none => ⟨[(0, .ptr 0 0)], [(0, .box [.v (.int .i64 a), .v (.int .i64 x), .v (.int .i64 b), .v (.int .i64 y), .sub 1 3 0 q.length]), (1, .row .sig q)], 2, Try.f50.ntmps⟩ | some d => ⟨[(0, .ptr 0 0)], [(0, .box [.v (.int .i64 d.a), .v (.int .i64 d.x), .v (.int .i64 d.b), .v (.int .i64 d.y), .sub 2 3 0 d.q.length]), (2, .row .sig d.q)], 3, Try.f50.ntmps⟩) (fun i => match i with | none => True | some d => duOk d = true ∧ ¬ q = [] ∧ ∃ k, wq d.q ≤ k ∧ carF k d = carD ⟨a, x, b, y, q⟩) (fun i => match i with | none => wq q + 1 | some d => wq d.q) ⟨none, trivial, SubS.weak ?_⟩ ?_
    · simp (config := { maxSteps := 2000000 }) only [go_sem, hG, hP, Nat.reduceEqDiff, ↓reduceIte, reduceCtorEq, Nat.reduceAdd, Nat.reduceSub, Nat.reduceMul, Nat.reduceLT, Nat.reduceLeDiff, Int.reduceAdd, Int.reduceSub, Int.reduceMul, Int.reduceLT, Int.reduceLE, Int.reduceEq, Int.reduceNeg, Int.reduceNe, Int.reduceGE, Int.reduceGT, Nat.reduceBEq, Int.reduceToNat]
      all_goals simp
    · have key : ∀ (a' x' b' y' : Int) (q' : List Sig), duOk ⟨a', x', b', y', q'⟩ = true → ¬ q' = [] → ∃ a2 x2 b2 y2 q2, wayD ⟨a', x', b', y', q'⟩ 5 0 = ⟨a2, x2, b2, y2, q2⟩ ∧ doEv ⟨a', x', b', y', q'⟩ 5 0 = (⟨a2, x2, b2, y2, q2⟩, true) ∧ duOk ⟨a2, x2, b2, y2, q2⟩ = true ∧ wq q2 + 1 ≤ wq q' := by
        intro a' x' b' y' q' hd' hq'
        rcases hv : wayD ⟨a', x', b', y', q'⟩ 5 0 with ⟨a2, x2, b2, y2, q2⟩
        have h1 := way0_ok hd' hq'
        have h2 := way0_do hd' hq'
        rw [show way0 ⟨a', x', b', y', q'⟩ = ⟨a2, x2, b2, y2, q2⟩ from hv] at h1 h2
        exact ⟨_, _, _, _, _, rfl, h2, h1.1, h1.2⟩
      intro i hi
      cases i with
      | none =>
        dsimp only
        by_cases hq : q = []
        · subst hq
          simp (config := { maxSteps := 2000000 }) only [go_sem, hG, hP, Nat.reduceEqDiff, ↓reduceIte, reduceCtorEq, Nat.reduceAdd, Nat.reduceSub, Nat.reduceMul, Nat.reduceLT, Nat.reduceLeDiff, Int.reduceAdd, Int.reduceSub, Int.reduceMul, Int.reduceLT, Int.reduceLE, Int.reduceEq, Int.reduceNeg, Int.reduceNe, Int.reduceGE, Int.reduceGT, Nat.reduceBEq, Int.reduceToNat,  spDoEv_f, spDoEv_t, spDoEv_k]
          refine ⟨_, _, _, ?_, h.1 rfl⟩
          simp (config := { maxSteps := 2000000 }) only [go_sem, hG, hP, Nat.reduceEqDiff, ↓reduceIte, reduceCtorEq, Nat.reduceAdd, Nat.reduceSub, Nat.reduceMul, Nat.reduceLT, Nat.reduceLeDiff, Int.reduceAdd, Int.reduceSub, Int.reduceMul, Int.reduceLT, Int.reduceLE, Int.reduceEq, Int.reduceNeg, Int.reduceNe, Int.reduceGE, Int.reduceGT, Nat.reduceBEq, Int.reduceToNat]
        · obtain ⟨a2, x2, b2, y2, q2, hv, hv2, hd2, hw2⟩ := key a x b y q hd hq
          have hsg := duOk_sig hd (i := 0) (List.length_pos_iff.2 hq)
          have hl := (duOk_head hd).2
          dsimp only at hsg hl
          have hl0 : 0 < q.length := List.length_pos_iff.2 hq
          have hgt : ((q.length : Int) > 0) = True := by apply eq_true; omega
          simp (config := { maxSteps := 2000000 }) only [go_sem, hG, hP, Nat.reduceEqDiff, ↓reduceIte, reduceCtorEq, Nat.reduceAdd, Nat.reduceSub, Nat.reduceMul, Nat.reduceLT, Nat.reduceLeDiff, Int.reduceAdd, Int.reduceSub, Int.reduceMul, Int.reduceLT, Int.reduceLE, Int.reduceEq, Int.reduceNeg, Int.reduceNe, Int.reduceGE, Int.reduceGT, Nat.reduceBEq, Int.reduceToNat,  spDoEv_f, spDoEv_t, spDoEv_k, hv, hv2, hgt, duA_eq, duL_eq]
          repeat' (first | (refine And.intro ?_ ?_) | (with_reducible intro _))
          all_goals try omega
          refine ⟨some ⟨a2, x2, b2, y2, q2⟩, ⟨⟨hd2, hq, wq q2, Nat.le_refl _, ?_⟩, by dsimp only; omega⟩, SubS.weak ?_⟩
          · have e : carD ⟨a, x, b, y, q⟩ = carF (wq q - 1) ⟨a2, x2, b2, y2, q2⟩ := by
              unfold carD
              obtain ⟨k, hk⟩ : ∃ k, wq q = k + 1 := ⟨wq q - 1, by omega⟩
              show carF (wq q) _ = _
              rw [hk, carF_step (d := ⟨a, x, b, y, q⟩) hq, show way0 ⟨a, x, b, y, q⟩ = ⟨a2, x2, b2, y2, q2⟩ from hv]; rfl
            rw [e]
            exact carF_more hd2 (Nat.le_refl _) (by dsimp only; omega)
          · simp (config := { maxSteps := 2000000 }) only [go_sem, hG, hP, Nat.reduceEqDiff, ↓reduceIte, reduceCtorEq, Nat.reduceAdd, Nat.reduceSub, Nat.reduceMul, Nat.reduceLT, Nat.reduceLeDiff, Int.reduceAdd, Int.reduceSub, Int.reduceMul, Int.reduceLT, Int.reduceLE, Int.reduceEq, Int.reduceNeg, Int.reduceNe, Int.reduceGE, Int.reduceGT, Nat.reduceBEq, Int.reduceToNat]
            all_goals simp
      | some d =>
        obtain ⟨a', x', b', y', q'⟩ := d
        obtain ⟨hd', hqn, k, hk, he⟩ := hi
        dsimp only at hk
        dsimp only
        by_cases hq : q' = []
        · subst hq
          simp (config := { maxSteps := 2000000 }) only [go_sem, hG, hP, Nat.reduceEqDiff, ↓reduceIte, reduceCtorEq, Nat.reduceAdd, Nat.reduceSub, Nat.reduceMul, Nat.reduceLT, Nat.reduceLeDiff, Int.reduceAdd, Int.reduceSub, Int.reduceMul, Int.reduceLT, Int.reduceLE, Int.reduceEq, Int.reduceNeg, Int.reduceNe, Int.reduceGE, Int.reduceGT, Nat.reduceBEq, Int.reduceToNat,  spDoEv_f, spDoEv_t, spDoEv_k]
          rw [carF_done (d := ⟨a', x', b', y', []⟩) rfl] at he
          have hh := h.2 hqn
          rw [← he] at hh
          refine ⟨_, _, _, ?_, hh⟩
          simp (config := { maxSteps := 2000000 }) only [go_sem, hG, hP, Nat.reduceEqDiff, ↓reduceIte, reduceCtorEq, Nat.reduceAdd, Nat.reduceSub, Nat.reduceMul, Nat.reduceLT, Nat.reduceLeDiff, Int.reduceAdd, Int.reduceSub, Int.reduceMul, Int.reduceLT, Int.reduceLE, Int.reduceEq, Int.reduceNeg, Int.reduceNe, Int.reduceGE, Int.reduceGT, Nat.reduceBEq, Int.reduceToNat]
          all_goals simp
        · obtain ⟨a2, x2, b2, y2, q2, hv, hv2, hd2, hw2⟩ := key a' x' b' y' q' hd' hq
          have hsg := duOk_sig hd' (i := 0) (List.length_pos_iff.2 hq)
          have hl := (duOk_head hd').2
          dsimp only at hsg hl
          have hl0 : 0 < q'.length := List.length_pos_iff.2 hq
          have hgt : ((q'.length : Int) > 0) = True := by apply eq_true; omega
          simp (config := { maxSteps := 2000000 }) only [go_sem, hG, hP, Nat.reduceEqDiff, ↓reduceIte, reduceCtorEq, Nat.reduceAdd, Nat.reduceSub, Nat.reduceMul, Nat.reduceLT, Nat.reduceLeDiff, Int.reduceAdd, Int.reduceSub, Int.reduceMul, Int.reduceLT, Int.reduceLE, Int.reduceEq, Int.reduceNeg, Int.reduceNe, Int.reduceGE, Int.reduceGT, Nat.reduceBEq, Int.reduceToNat,  spDoEv_f, spDoEv_t, spDoEv_k, hv, hv2, hgt, duA_eq, duL_eq]
          repeat' (first | (refine And.intro ?_ ?_) | (with_reducible intro _))
          all_goals try omega
          obtain ⟨k', rfl⟩ : ∃ k', k = k' + 1 := ⟨k - 1, by omega⟩
          rw [carF_step (d := ⟨a', x', b', y', q'⟩) hq, show way0 ⟨a', x', b', y', q'⟩ = ⟨a2, x2, b2, y2, q2⟩ from hv] at he
          refine ⟨some ⟨a2, x2, b2, y2, q2⟩, ⟨⟨hd2, hqn, k', by dsimp only; omega, he⟩, by dsimp only; omega⟩, SubS.weak ?_⟩
          simp (config := { maxSteps := 2000000 }) only [go_sem, hG, hP, Nat.reduceEqDiff, ↓reduceIte, reduceCtorEq, Nat.reduceAdd, Nat.reduceSub, Nat.reduceMul, Nat.reduceLT, Nat.reduceLeDiff, Int.reduceAdd, Int.reduceSub, Int.reduceMul, Int.reduceLT, Int.reduceLE, Int.reduceEq, Int.reduceNeg, Int.reduceNe, Int.reduceGE, Int.reduceGT, Nat.reduceBEq, Int.reduceToNat]
          all_goals simp
  · exact h.elim
end Go.Proofs.YtiakjdcognckpaaE

/-! The code of a function, in the engine's words. -/
namespace Go.Proofs.YtiakjdcognckpaaE
open Go Go.RowKit
@[reducible] def ic15 : IC := (.seq (.ops [⟨some 2, .box (.tmp 0), none⟩, ⟨some 4, .new [(.int .i64 0), (.int .i64 0), (.int .i64 0), (.int .i64 0), (.slice none 0 0)], none⟩]) (.seq (.seq (.ops [⟨some 6, .load 5 true (.tmp 2), none⟩, ⟨some 7, .call 32 [(.tmp 6)], none⟩, ⟨some 8, .una .not (.tmp 7), none⟩, ⟨some 9, .mov (.tmp 8), none⟩, ⟨some 10, .mov (.tmp 1), some (9, false)⟩, ⟨some 11, .call 38 [(.tmp 10), (.const (.int .i64 0)), (.const (.int .i64 20))], some (9, false)⟩, ⟨some 12, .una .not (.tmp 11), some (9, false)⟩, ⟨some 13, .pick (.tmp 9) (.const (.bool true)) (.tmp 12), none⟩]) (.cond (.tmp 13) (.seq (.ops [⟨some 14, .bld [(.int .i64 0), (.int .i64 0), (.int .i64 0), (.int .i64 0), (.slice none 0 0)] [], none⟩, ⟨none, .store 5 (.tmp 4) (.tmp 14), none⟩]) .ret) .skip)) (.seq (.ops [⟨some 15, .load 5 true (.tmp 2), none⟩, ⟨some 16, .call 43 [(.tmp 15)], none⟩, ⟨none, .store 5 (.tmp 2) (.tmp 16), none⟩]) (.seq (.seq (.ops [⟨some 5, .mov (.const (.int .i64 0)), none⟩]) (.block 0 (.loop (.seq (.seq (.ops [⟨some 17, .mov (.tmp 5), none⟩, ⟨some 18, .mov (.tmp 1), none⟩, ⟨some 19, .bin .lss (.tmp 17) (.tmp 18), none⟩]) (.cond (.tmp 19) .skip (.exit 0))) (.seq (.block 1 (.seq (.ops [⟨some 22, .load 5 true (.tmp 2), none⟩, ⟨some 23, .call 44 [(.tmp 22)], none⟩, ⟨none, .store 5 (.tmp 2) (.tmp 23), none⟩]) (.seq (.ops [⟨some 24, .load 5 true (.tmp 2), none⟩, ⟨some 25, .call 45 [(.tmp 24), (.const (.int .i64 0))], none⟩, ⟨none, .store 5 (.tmp 2) (.tmp 25), none⟩]) (.ops [⟨some 26, .load 5 true (.tmp 2), none⟩, ⟨some 27, .call 45 [(.tmp 26), (.const (.int .i64 1))], none⟩, ⟨none, .store 5 (.tmp 2) (.tmp 27), none⟩])))) (.ops [⟨some 20, .mov (.tmp 5), none⟩, ⟨some 21, .bin .add (.tmp 20) (.const (.int .i64 1)), none⟩, ⟨some 5, .mov (.tmp 21), none⟩])))))) (.seq (.ops [⟨some 28, .load 5 true (.tmp 2), none⟩, ⟨some 29, .call 44 [(.tmp 28)], none⟩, ⟨none, .store 5 (.tmp 4) (.tmp 29), none⟩]) .ret)))))
@[reducible] def rv15 : List RV := [.cell 4 5 true]
theorem low15 : lowC Try.prog tau Try.f15.ntmps (Try.f15.body.getD .skip) = some (erase ic15) := by kernel_rfl
theorem res15 : lowR Try.prog Try.f15.results.toList = some rv15 := by kernel_rfl
theorem bod15 : Try.f15.body = some (Try.f15.body.getD .skip) := by kernel_rfl
theorem cal15 : callable Try.prog 15 = true := by kernel_rfl

end Go.Proofs.YtiakjdcognckpaaE
