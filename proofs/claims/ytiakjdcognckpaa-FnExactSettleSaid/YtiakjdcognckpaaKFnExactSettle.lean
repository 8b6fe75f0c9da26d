/- A part of a proof that a law of the given program holds for every input: no condition. -/
import Derived.Test.YtiakjdcognckpaaProg
import Derived.KernelRfl
import Derived.Deep.Slices
import Derived.OpenShut
import Derived.SizedLaws
import Derived.WideLaws
import Derived.Test.YtiakjdcognckpaaRows
import Derived.ProofKit
import Derived.ShutString
import Derived.ChangeOld
import Derived.Below
import Derived.Test.YtiakjdcognckpaaKFnExactSettle2

set_option linter.unusedSimpArgs false
set_option linter.unusedVariables false
/-! Settle, of the reference and of the program. -/
namespace Go.Proofs.YtiakjdcognckpaaE
open Go Go.RowKit
set_option linter.unusedSimpArgs false
set_option linter.unusedVariables false
set_option maxRecDepth 20000
set_option maxHeartbeats 4000000

def spSettle : Spec := ⟨fun _ _ => [], fun args objs K => match args, objs with
  | [.agg [.v (.int .i64 a), .v (.int .i64 x), .v (.int .i64 b), .v (.int .i64 y), .rs .sig q], .v (.int .i64 n)], [] => q.length ≤ 1099511627776 ∧ K (duA (settleD ⟨a, x, b, y, q⟩ n)) (duL (settleD ⟨a, x, b, y, q⟩ n)) 1
  | _, _ => False, false⟩
theorem spSettle_t {L : Hp} {a : List AVal} : Spec.take spSettle L a = [] := id rfl
theorem spSettle_k : Spec.keep spSettle = false := id rfl
theorem spSettle_f {a} {x} {b} {y} {q} {n} {K : AVal → Hp → Nat → Prop} : Spec.f spSettle ([.agg [.v (.int .i64 a), .v (.int .i64 x), .v (.int .i64 b), .v (.int .i64 y), .rs .sig q], .v (.int .i64 n)]) ([]) K = (q.length ≤ 1099511627776 ∧ K (duA (settleD ⟨a, x, b, y, q⟩ n)) (duL (settleD ⟨a, x, b, y, q⟩ n)) 1) := id rfl
theorem valid15 : Valid Try.prog 15 spSettle := by
  refine validI (Γ := lk [(32, spDuOk), (38, spIn), (43, spToDu), (44, spCarr), (45, spTimer)]) Try.func15 bod15 low15 res15 (good_of ⟨⟨cal32, valid32⟩, ⟨cal38, valid38⟩, ⟨cal43, valid43⟩, ⟨cal44, valid44⟩, ⟨cal45, valid45⟩, trivial⟩) ?_
  intro E args objs K h hE hG hP
  simp only [spSettle] at h
  split at h
  · refine ⟨by simp [Try.ntmps15], ?_⟩
    rename_i a x b y q n
    obtain ⟨b1, h⟩ := h
    cases hd : duOk ⟨a, x, b, y, q⟩
    · have e : settleD ⟨a, x, b, y, q⟩ n = ⟨0, 0, 0, 0, []⟩ := if_neg (fun e => by rw [hd] at e; cases e.1)
      rw [e] at h
      simp (config := { maxSteps := 2000000 }) only [go_sem, hG, hP, Nat.reduceEqDiff, ↓reduceIte, reduceCtorEq, Nat.reduceAdd, Nat.reduceSub, Nat.reduceMul, Nat.reduceLT, Nat.reduceLeDiff, Int.reduceAdd, Int.reduceSub, Int.reduceMul, Int.reduceLT, Int.reduceLE, Int.reduceEq, Int.reduceNeg, Int.reduceNe, Int.reduceGE, Int.reduceGT, Nat.reduceBEq, Int.reduceToNat,  spToDu_f, spToDu_t, spToDu_k, spDuOk_f, spDuOk_t, spDuOk_k, spIn_f, spIn_t, spIn_k, spCarr_f, spCarr_t, spCarr_k, spTimer_f, spTimer_t, spTimer_k, takeA5_eq, ↓stayK_eq, hd]
      repeat' (first | (refine And.intro ?_ ?_) | (with_reducible intro _))
      all_goals first | omega | (refine ⟨_, _, _, ?_, h⟩; simp only [duA_eq, duL_eq]; simp (config := { maxSteps := 2000000 }) only [go_sem, hG, hP, Nat.reduceEqDiff, ↓reduceIte, reduceCtorEq, Nat.reduceAdd, Nat.reduceSub, Nat.reduceMul, Nat.reduceLT, Nat.reduceLeDiff, Int.reduceAdd, Int.reduceSub, Int.reduceMul, Int.reduceLT, Int.reduceLE, Int.reduceEq, Int.reduceNeg, Int.reduceNe, Int.reduceGE, Int.reduceGT, Nat.reduceBEq, Int.reduceToNat]; all_goals (first | (simp; done) | omega))
    · by_cases hn : 0 ≤ n ∧ n ≤ 20
      rotate_left
      · have hne := eq_false hn
        have e : settleD ⟨a, x, b, y, q⟩ n = ⟨0, 0, 0, 0, []⟩ := if_neg (fun e => hn e.2)
        rw [e] at h
        simp (config := { maxSteps := 2000000 }) only [go_sem, hG, hP, Nat.reduceEqDiff, ↓reduceIte, reduceCtorEq, Nat.reduceAdd, Nat.reduceSub, Nat.reduceMul, Nat.reduceLT, Nat.reduceLeDiff, Int.reduceAdd, Int.reduceSub, Int.reduceMul, Int.reduceLT, Int.reduceLE, Int.reduceEq, Int.reduceNeg, Int.reduceNe, Int.reduceGE, Int.reduceGT, Nat.reduceBEq, Int.reduceToNat,  spToDu_f, spToDu_t, spToDu_k, spDuOk_f, spDuOk_t, spDuOk_k, spIn_f, spIn_t, spIn_k, spCarr_f, spCarr_t, spCarr_k, spTimer_f, spTimer_t, spTimer_k, takeA5_eq, ↓stayK_eq, hd, hne]
        repeat' (first | (refine And.intro ?_ ?_) | (with_reducible intro _))
        all_goals first | omega | (refine ⟨_, _, _, ?_, h⟩; simp only [duA_eq, duL_eq]; simp (config := { maxSteps := 2000000 }) only [go_sem, hG, hP, Nat.reduceEqDiff, ↓reduceIte, reduceCtorEq, Nat.reduceAdd, Nat.reduceSub, Nat.reduceMul, Nat.reduceLT, Nat.reduceLeDiff, Int.reduceAdd, Int.reduceSub, Int.reduceMul, Int.reduceLT, Int.reduceLE, Int.reduceEq, Int.reduceNeg, Int.reduceNe, Int.reduceGE, Int.reduceGT, Nat.reduceBEq, Int.reduceToNat]; all_goals (first | (simp; done) | omega))
      · have hne := eq_true hn
        obtain ⟨m, rfl⟩ : ∃ m : Nat, n = m := ⟨n.toNat, by omega⟩
        have e : settleD ⟨a, x, b, y, q⟩ m = carD (roundsD m ⟨a, x, b, y, q⟩) := by unfold settleD; rw [if_pos ⟨hd, hn⟩, Int.toNat_natCast]
        rw [e] at h
        simp (config := { maxSteps := 2000000 }) only [go_sem, hG, hP, Nat.reduceEqDiff, ↓reduceIte, reduceCtorEq, Nat.reduceAdd, Nat.reduceSub, Nat.reduceMul, Nat.reduceLT, Nat.reduceLeDiff, Int.reduceAdd, Int.reduceSub, Int.reduceMul, Int.reduceLT, Int.reduceLE, Int.reduceEq, Int.reduceNeg, Int.reduceNe, Int.reduceGE, Int.reduceGT, Nat.reduceBEq, Int.reduceToNat,  spToDu_f, spToDu_t, spToDu_k, spDuOk_f, spDuOk_t, spDuOk_k, spIn_f, spIn_t, spIn_k, spCarr_f, spCarr_t, spCarr_k, spTimer_f, spTimer_t, spTimer_k, takeA5_eq, ↓stayK_eq, hd, hne]
        repeat (refine And.intro (by first | omega | (simp; done) | (simp; omega) | (unfold appRoom; omega)) ?_)
        refine loopI hE (fun p : Nat × Du => ⟨[(1, .v (.int .i64 m)), (2, .ptr 0 0), (4, .ptr 1 0), (5, .v (.int .i64 p.1))], [(0, .box [.v (.int .i64 p.2.a), .v (.int .i64 p.2.x), .v (.int .i64 p.2.b), .v (.int .i64 p.2.y), .sub 2 3 0 p.2.q.length]), (1, .box [.v (.int .i64 0), .v (.int .i64 0), .v (.int .i64 0), .v (.int .i64 0), .v (.slice none 0 0)]), (2, .row .sig p.2.q)], 3, Try.f15.ntmps⟩) (fun p => p.1 ≤ m ∧ p.2 = roundsD p.1 ⟨a, x, b, y, q⟩) (fun p => m - p.1) ⟨(0, ⟨a, x, b, y, q⟩), ⟨Nat.zero_le _, rfl⟩, SubS.weak ?_⟩ ?_
        · simp (config := { maxSteps := 2000000 }) only [go_sem, hG, hP, Nat.reduceEqDiff, ↓reduceIte, reduceCtorEq, Nat.reduceAdd, Nat.reduceSub, Nat.reduceMul, Nat.reduceLT, Nat.reduceLeDiff, Int.reduceAdd, Int.reduceSub, Int.reduceMul, Int.reduceLT, Int.reduceLE, Int.reduceEq, Int.reduceNeg, Int.reduceNe, Int.reduceGE, Int.reduceGT, Nat.reduceBEq, Int.reduceToNat]
          all_goals simp
        · rintro ⟨j, ⟨a', x', b', y', q'⟩⟩ ⟨hj, hr⟩
          dsimp only at hj hr
          have hd' : duOk ⟨a', x', b', y', q'⟩ = true := by rw [hr]; exact roundsD_ok hd _
          have hcd := carD_ok hd'
          rcases hc : carD ⟨a', x', b', y', q'⟩ with ⟨c1, c2, c3, c4, cq⟩
          rw [hc] at hcd
          obtain ⟨hcd, rfl⟩ : duOk ⟨c1, c2, c3, c4, cq⟩ = true ∧ cq = [] := hcd
          have hl' := (duOk_head hd').2
          dsimp only at hl'
          by_cases hq : q' = []
          · subst hq
            have hcs : carD ⟨a', x', b', y', []⟩ = ⟨a', x', b', y', []⟩ := carF_done rfl _
            rw [hcs] at hc
            cases hc
            by_cases hlt : (j : Int) < (m : Int)
            · have hlte := eq_true hlt
              cases hg0 : timerG ⟨a', x', b', y', []⟩ 0
              · have ht0 := timer_no hg0
                cases hg1 : timerG ⟨a', x', b', y', []⟩ 1
                · have ht1 := timer_no hg1
                  simp (config := { maxSteps := 2000000 }) only [go_sem, hG, hP, Nat.reduceEqDiff, ↓reduceIte, reduceCtorEq, Nat.reduceAdd, Nat.reduceSub, Nat.reduceMul, Nat.reduceLT, Nat.reduceLeDiff, Int.reduceAdd, Int.reduceSub, Int.reduceMul, Int.reduceLT, Int.reduceLE, Int.reduceEq, Int.reduceNeg, Int.reduceNe, Int.reduceGE, Int.reduceGT, Nat.reduceBEq, Int.reduceToNat,  spToDu_f, spToDu_t, spToDu_k, spDuOk_f, spDuOk_t, spDuOk_k, spIn_f, spIn_t, spIn_k, spCarr_f, spCarr_t, spCarr_k, spTimer_f, spTimer_t, spTimer_k, takeA5_eq, ↓stayK_eq, hd', hcs, hlte, hg0, ht0, hg1, ht1]
                  (try simp (disch := omega) only [wrap_id])
                  repeat' (first | (refine And.intro ?_ ?_) | (with_reducible intro _))
                  all_goals try omega
                  refine ⟨(j + 1, ⟨a', x', b', y', []⟩), ⟨⟨by dsimp only; omega, by show _ = roundD _; rw [← hr]; unfold roundD; rw [hcs, ht0, ht1]⟩, by dsimp only; omega⟩, SubS.weak ?_⟩
                  simp (config := { maxSteps := 2000000 }) only [go_sem, hG, hP, Nat.reduceEqDiff, ↓reduceIte, reduceCtorEq, Nat.reduceAdd, Nat.reduceSub, Nat.reduceMul, Nat.reduceLT, Nat.reduceLeDiff, Int.reduceAdd, Int.reduceSub, Int.reduceMul, Int.reduceLT, Int.reduceLE, Int.reduceEq, Int.reduceNeg, Int.reduceNe, Int.reduceGE, Int.reduceGT, Nat.reduceBEq, Int.reduceToNat]
                  all_goals simp
                · rcases ht1 : timer ⟨a', x', b', y', []⟩ 1 with ⟨f1, f2, f3, f4, fq⟩
                  simp (config := { maxSteps := 2000000 }) only [go_sem, hG, hP, Nat.reduceEqDiff, ↓reduceIte, reduceCtorEq, Nat.reduceAdd, Nat.reduceSub, Nat.reduceMul, Nat.reduceLT, Nat.reduceLeDiff, Int.reduceAdd, Int.reduceSub, Int.reduceMul, Int.reduceLT, Int.reduceLE, Int.reduceEq, Int.reduceNeg, Int.reduceNe, Int.reduceGE, Int.reduceGT, Nat.reduceBEq, Int.reduceToNat,  spToDu_f, spToDu_t, spToDu_k, spDuOk_f, spDuOk_t, spDuOk_k, spIn_f, spIn_t, spIn_k, spCarr_f, spCarr_t, spCarr_k, spTimer_f, spTimer_t, spTimer_k, takeA5_eq, ↓stayK_eq, hd', hcs, hlte, hg0, ht0, hg1, ht1]
                  (try simp (disch := omega) only [wrap_id])
                  repeat' (first | (refine And.intro ?_ ?_) | (with_reducible intro _))
                  all_goals try omega
                  refine ⟨(j + 1, ⟨f1, f2, f3, f4, fq⟩), ⟨⟨by dsimp only; omega, by show _ = roundD _; rw [← hr]; unfold roundD; rw [hcs, ht0, ht1]⟩, by dsimp only; omega⟩, SubS.weak ?_⟩
                  simp (config := { maxSteps := 2000000 }) only [go_sem, hG, hP, Nat.reduceEqDiff, ↓reduceIte, reduceCtorEq, Nat.reduceAdd, Nat.reduceSub, Nat.reduceMul, Nat.reduceLT, Nat.reduceLeDiff, Int.reduceAdd, Int.reduceSub, Int.reduceMul, Int.reduceLT, Int.reduceLE, Int.reduceEq, Int.reduceNeg, Int.reduceNe, Int.reduceGE, Int.reduceGT, Nat.reduceBEq, Int.reduceToNat]
                  all_goals simp
              · rcases ht0 : timer ⟨a', x', b', y', []⟩ 0 with ⟨e1, e2, e3, e4, eq⟩
                have hel := (timer_ok (p := 0) hcd (by show 0 < 40; decide)).2
                rw [ht0] at hel
                simp only [List.length_nil] at hel
                cases hg1 : timerG ⟨e1, e2, e3, e4, eq⟩ 1
                · have ht1 := timer_no hg1
                  simp (config := { maxSteps := 2000000 }) only [go_sem, hG, hP, Nat.reduceEqDiff, ↓reduceIte, reduceCtorEq, Nat.reduceAdd, Nat.reduceSub, Nat.reduceMul, Nat.reduceLT, Nat.reduceLeDiff, Int.reduceAdd, Int.reduceSub, Int.reduceMul, Int.reduceLT, Int.reduceLE, Int.reduceEq, Int.reduceNeg, Int.reduceNe, Int.reduceGE, Int.reduceGT, Nat.reduceBEq, Int.reduceToNat,  spToDu_f, spToDu_t, spToDu_k, spDuOk_f, spDuOk_t, spDuOk_k, spIn_f, spIn_t, spIn_k, spCarr_f, spCarr_t, spCarr_k, spTimer_f, spTimer_t, spTimer_k, takeA5_eq, ↓stayK_eq, hd', hcs, hlte, hg0, ht0, hg1, ht1]
                  (try simp (disch := omega) only [wrap_id])
                  repeat' (first | (refine And.intro ?_ ?_) | (with_reducible intro _))
                  all_goals try omega
                  refine ⟨(j + 1, ⟨e1, e2, e3, e4, eq⟩), ⟨⟨by dsimp only; omega, by show _ = roundD _; rw [← hr]; unfold roundD; rw [hcs, ht0, ht1]⟩, by dsimp only; omega⟩, SubS.weak ?_⟩
                  simp (config := { maxSteps := 2000000 }) only [go_sem, hG, hP, Nat.reduceEqDiff, ↓reduceIte, reduceCtorEq, Nat.reduceAdd, Nat.reduceSub, Nat.reduceMul, Nat.reduceLT, Nat.reduceLeDiff, Int.reduceAdd, Int.reduceSub, Int.reduceMul, Int.reduceLT, Int.reduceLE, Int.reduceEq, Int.reduceNeg, Int.reduceNe, Int.reduceGE, Int.reduceGT, Nat.reduceBEq, Int.reduceToNat]
                  all_goals simp
                · rcases ht1 : timer ⟨e1, e2, e3, e4, eq⟩ 1 with ⟨f1, f2, f3, f4, fq⟩
                  simp (config := { maxSteps := 2000000 }) only [go_sem, hG, hP, Nat.reduceEqDiff, ↓reduceIte, reduceCtorEq, Nat.reduceAdd, Nat.reduceSub, Nat.reduceMul, Nat.reduceLT, Nat.reduceLeDiff, Int.reduceAdd, Int.reduceSub, Int.reduceMul, Int.reduceLT, Int.reduceLE, Int.reduceEq, Int.reduceNeg, Int.reduceNe, Int.reduceGE, Int.reduceGT, Nat.reduceBEq, Int.reduceToNat,  spToDu_f, spToDu_t, spToDu_k, spDuOk_f, spDuOk_t, spDuOk_k, spIn_f, spIn_t, spIn_k, spCarr_f, spCarr_t, spCarr_k, spTimer_f, spTimer_t, spTimer_k, takeA5_eq, ↓stayK_eq, hd', hcs, hlte, hg0, ht0, hg1, ht1]
                  (try simp (disch := omega) only [wrap_id])
                  repeat' (first | (refine And.intro ?_ ?_) | (with_reducible intro _))
                  all_goals try omega
                  refine ⟨(j + 1, ⟨f1, f2, f3, f4, fq⟩), ⟨⟨by dsimp only; omega, by show _ = roundD _; rw [← hr]; unfold roundD; rw [hcs, ht0, ht1]⟩, by dsimp only; omega⟩, SubS.weak ?_⟩
                  simp (config := { maxSteps := 2000000 }) only [go_sem, hG, hP, Nat.reduceEqDiff, ↓reduceIte, reduceCtorEq, Nat.reduceAdd, Nat.reduceSub, Nat.reduceMul, Nat.reduceLT, Nat.reduceLeDiff, Int.reduceAdd, Int.reduceSub, Int.reduceMul, Int.reduceLT, Int.reduceLE, Int.reduceEq, Int.reduceNeg, Int.reduceNe, Int.reduceGE, Int.reduceGT, Nat.reduceBEq, Int.reduceToNat]
                  all_goals simp
            · have hlte := eq_false hlt
              obtain rfl : j = m := by omega
              rw [← hr, hcs] at h
              simp (config := { maxSteps := 2000000 }) only [go_sem, hG, hP, Nat.reduceEqDiff, ↓reduceIte, reduceCtorEq, Nat.reduceAdd, Nat.reduceSub, Nat.reduceMul, Nat.reduceLT, Nat.reduceLeDiff, Int.reduceAdd, Int.reduceSub, Int.reduceMul, Int.reduceLT, Int.reduceLE, Int.reduceEq, Int.reduceNeg, Int.reduceNe, Int.reduceGE, Int.reduceGT, Nat.reduceBEq, Int.reduceToNat,  spToDu_f, spToDu_t, spToDu_k, spDuOk_f, spDuOk_t, spDuOk_k, spIn_f, spIn_t, spIn_k, spCarr_f, spCarr_t, spCarr_k, spTimer_f, spTimer_t, spTimer_k, takeA5_eq, ↓stayK_eq, hd', hcs, hlte]
              repeat' (first | (refine And.intro ?_ ?_) | (with_reducible intro _))
              all_goals first | omega | (refine ⟨_, _, _, ?_, h⟩; simp only [duA_eq, duL_eq]; simp (config := { maxSteps := 2000000 }) only [go_sem, hG, hP, Nat.reduceEqDiff, ↓reduceIte, reduceCtorEq, Nat.reduceAdd, Nat.reduceSub, Nat.reduceMul, Nat.reduceLT, Nat.reduceLeDiff, Int.reduceAdd, Int.reduceSub, Int.reduceMul, Int.reduceLT, Int.reduceLE, Int.reduceEq, Int.reduceNeg, Int.reduceNe, Int.reduceGE, Int.reduceGT, Nat.reduceBEq, Int.reduceToNat]; all_goals (first | (simp; done) | omega))
          · have hqe := eq_false hq
            by_cases hlt : (j : Int) < (m : Int)
            · have hlte := eq_true hlt
              cases hg0 : timerG ⟨c1, c2, c3, c4, []⟩ 0
              · have ht0 := timer_no hg0
                cases hg1 : timerG ⟨c1, c2, c3, c4, []⟩ 1
                · have ht1 := timer_no hg1
                  simp (config := { maxSteps := 2000000 }) only [go_sem, hG, hP, Nat.reduceEqDiff, ↓reduceIte, reduceCtorEq, Nat.reduceAdd, Nat.reduceSub, Nat.reduceMul, Nat.reduceLT, Nat.reduceLeDiff, Int.reduceAdd, Int.reduceSub, Int.reduceMul, Int.reduceLT, Int.reduceLE, Int.reduceEq, Int.reduceNeg, Int.reduceNe, Int.reduceGE, Int.reduceGT, Nat.reduceBEq, Int.reduceToNat,  spToDu_f, spToDu_t, spToDu_k, spDuOk_f, spDuOk_t, spDuOk_k, spIn_f, spIn_t, spIn_k, spCarr_f, spCarr_t, spCarr_k, spTimer_f, spTimer_t, spTimer_k, takeA5_eq, ↓stayK_eq, hd', hqe, hc, hlte, hg0, ht0, hg1, ht1]
                  (try simp (disch := omega) only [wrap_id])
                  repeat' (first | (refine And.intro ?_ ?_) | (with_reducible intro _))
                  all_goals try omega
                  refine ⟨(j + 1, ⟨c1, c2, c3, c4, []⟩), ⟨⟨by dsimp only; omega, by show _ = roundD _; rw [← hr]; unfold roundD; rw [hc, ht0, ht1]⟩, by dsimp only; omega⟩, SubS.weak ?_⟩
                  simp (config := { maxSteps := 2000000 }) only [go_sem, hG, hP, Nat.reduceEqDiff, ↓reduceIte, reduceCtorEq, Nat.reduceAdd, Nat.reduceSub, Nat.reduceMul, Nat.reduceLT, Nat.reduceLeDiff, Int.reduceAdd, Int.reduceSub, Int.reduceMul, Int.reduceLT, Int.reduceLE, Int.reduceEq, Int.reduceNeg, Int.reduceNe, Int.reduceGE, Int.reduceGT, Nat.reduceBEq, Int.reduceToNat]
                  all_goals simp
                · rcases ht1 : timer ⟨c1, c2, c3, c4, []⟩ 1 with ⟨f1, f2, f3, f4, fq⟩
                  simp (config := { maxSteps := 2000000 }) only [go_sem, hG, hP, Nat.reduceEqDiff, ↓reduceIte, reduceCtorEq, Nat.reduceAdd, Nat.reduceSub, Nat.reduceMul, Nat.reduceLT, Nat.reduceLeDiff, Int.reduceAdd, Int.reduceSub, Int.reduceMul, Int.reduceLT, Int.reduceLE, Int.reduceEq, Int.reduceNeg, Int.reduceNe, Int.reduceGE, Int.reduceGT, Nat.reduceBEq, Int.reduceToNat,  spToDu_f, spToDu_t, spToDu_k, spDuOk_f, spDuOk_t, spDuOk_k, spIn_f, spIn_t, spIn_k, spCarr_f, spCarr_t, spCarr_k, spTimer_f, spTimer_t, spTimer_k, takeA5_eq, ↓stayK_eq, hd', hqe, hc, hlte, hg0, ht0, hg1, ht1]
                  (try simp (disch := omega) only [wrap_id])
                  repeat' (first | (refine And.intro ?_ ?_) | (with_reducible intro _))
                  all_goals try omega
                  refine ⟨(j + 1, ⟨f1, f2, f3, f4, fq⟩), ⟨⟨by dsimp only; omega, by show _ = roundD _; rw [← hr]; unfold roundD; rw [hc, ht0, ht1]⟩, by dsimp only; omega⟩, SubS.weak ?_⟩
                  simp (config := { maxSteps := 2000000 }) only [go_sem, hG, hP, Nat.reduceEqDiff, ↓reduceIte, reduceCtorEq, Nat.reduceAdd, Nat.reduceSub, Nat.reduceMul, Nat.reduceLT, Nat.reduceLeDiff, Int.reduceAdd, Int.reduceSub, Int.reduceMul, Int.reduceLT, Int.reduceLE, Int.reduceEq, Int.reduceNeg, Int.reduceNe, Int.reduceGE, Int.reduceGT, Nat.reduceBEq, Int.reduceToNat]
                  all_goals simp
              · rcases ht0 : timer ⟨c1, c2, c3, c4, []⟩ 0 with ⟨e1, e2, e3, e4, eq⟩
                have hel := (timer_ok (p := 0) hcd (by show 0 < 40; decide)).2
                rw [ht0] at hel
                simp only [List.length_nil] at hel
                cases hg1 : timerG ⟨e1, e2, e3, e4, eq⟩ 1
                · have ht1 := timer_no hg1
                  simp (config := { maxSteps := 2000000 }) only [go_sem, hG, hP, Nat.reduceEqDiff, ↓reduceIte, reduceCtorEq, Nat.reduceAdd, Nat.reduceSub, Nat.reduceMul, Nat.reduceLT, Nat.reduceLeDiff, Int.reduceAdd, Int.reduceSub, Int.reduceMul, Int.reduceLT, Int.reduceLE, Int.reduceEq, Int.reduceNeg, Int.reduceNe, Int.reduceGE, Int.reduceGT, Nat.reduceBEq, Int.reduceToNat,  spToDu_f, spToDu_t, spToDu_k, spDuOk_f, spDuOk_t, spDuOk_k, spIn_f, spIn_t, spIn_k, spCarr_f, spCarr_t, spCarr_k, spTimer_f, spTimer_t, spTimer_k, takeA5_eq, ↓stayK_eq, hd', hqe, hc, hlte, hg0, ht0, hg1, ht1]
                  (try simp (disch := omega) only [wrap_id])
                  repeat' (first | (refine And.intro ?_ ?_) | (with_reducible intro _))
                  all_goals try omega
                  refine ⟨(j + 1, ⟨e1, e2, e3, e4, eq⟩), ⟨⟨by dsimp only; omega, by show _ = roundD _; rw [← hr]; unfold roundD; rw [hc, ht0, ht1]⟩, by dsimp only; omega⟩, SubS.weak ?_⟩
                  simp (config := { maxSteps := 2000000 }) only [go_sem, hG, hP, Nat.reduceEqDiff, ↓reduceIte, reduceCtorEq, Nat.reduceAdd, Nat.reduceSub, Nat.reduceMul, Nat.reduceLT, Nat.reduceLeDiff, Int.reduceAdd, Int.reduceSub, Int.reduceMul, Int.reduceLT, Int.reduceLE, Int.reduceEq, Int.reduceNeg, Int.reduceNe, Int.reduceGE, Int.reduceGT, Nat.reduceBEq, Int.reduceToNat]
                  all_goals simp
                · rcases ht1 : timer ⟨e1, e2, e3, e4, eq⟩ 1 with ⟨f1, f2, f3, f4, fq⟩
                  simp (config := { maxSteps := 2000000 }) only [go_sem, hG, hP, Nat.reduceEqDiff, ↓reduceIte, reduceCtorEq, Nat.reduceAdd, Nat.reduceSub, Nat.reduceMul, Nat.reduceLT, Nat.reduceLeDiff, Int.reduceAdd, Int.reduceSub, Int.reduceMul, Int.reduceLT, Int.reduceLE, Int.reduceEq, Int.reduceNeg, Int.reduceNe, Int.reduceGE, Int.reduceGT, Nat.reduceBEq, Int.reduceToNat,  spToDu_f, spToDu_t, spToDu_k, spDuOk_f, spDuOk_t, spDuOk_k, spIn_f, spIn_t, spIn_k, spCarr_f, spCarr_t, spCarr_k, spTimer_f, spTimer_t, spTimer_k, takeA5_eq, ↓stayK_eq, hd', hqe, hc, hlte, hg0, ht0, hg1, ht1]
                  (try simp (disch := omega) only [wrap_id])
                  repeat' (first | (refine And.intro ?_ ?_) | (with_reducible intro _))
                  all_goals try omega
                  refine ⟨(j + 1, ⟨f1, f2, f3, f4, fq⟩), ⟨⟨by dsimp only; omega, by show _ = roundD _; rw [← hr]; unfold roundD; rw [hc, ht0, ht1]⟩, by dsimp only; omega⟩, SubS.weak ?_⟩
                  simp (config := { maxSteps := 2000000 }) only [go_sem, hG, hP, Nat.reduceEqDiff, ↓reduceIte, reduceCtorEq, Nat.reduceAdd, Nat.reduceSub, Nat.reduceMul, Nat.reduceLT, Nat.reduceLeDiff, Int.reduceAdd, Int.reduceSub, Int.reduceMul, Int.reduceLT, Int.reduceLE, Int.reduceEq, Int.reduceNeg, Int.reduceNe, Int.reduceGE, Int.reduceGT, Nat.reduceBEq, Int.reduceToNat]
                  all_goals simp
            · have hlte := eq_false hlt
              obtain rfl : j = m := by omega
              rw [← hr, hc] at h
              simp (config := { maxSteps := 2000000 }) only [go_sem, hG, hP, Nat.reduceEqDiff, ↓reduceIte, reduceCtorEq, Nat.reduceAdd, Nat.reduceSub, Nat.reduceMul, Nat.reduceLT, Nat.reduceLeDiff, Int.reduceAdd, Int.reduceSub, Int.reduceMul, Int.reduceLT, Int.reduceLE, Int.reduceEq, Int.reduceNeg, Int.reduceNe, Int.reduceGE, Int.reduceGT, Nat.reduceBEq, Int.reduceToNat,  spToDu_f, spToDu_t, spToDu_k, spDuOk_f, spDuOk_t, spDuOk_k, spIn_f, spIn_t, spIn_k, spCarr_f, spCarr_t, spCarr_k, spTimer_f, spTimer_t, spTimer_k, takeA5_eq, ↓stayK_eq, hd', hqe, hc, hlte]
              repeat' (first | (refine And.intro ?_ ?_) | (with_reducible intro _))
              all_goals first | omega | (refine ⟨_, _, _, ?_, h⟩; simp only [duA_eq, duL_eq]; simp (config := { maxSteps := 2000000 }) only [go_sem, hG, hP, Nat.reduceEqDiff, ↓reduceIte, reduceCtorEq, Nat.reduceAdd, Nat.reduceSub, Nat.reduceMul, Nat.reduceLT, Nat.reduceLeDiff, Int.reduceAdd, Int.reduceSub, Int.reduceMul, Int.reduceLT, Int.reduceLE, Int.reduceEq, Int.reduceNeg, Int.reduceNe, Int.reduceGE, Int.reduceGT, Nat.reduceBEq, Int.reduceToNat]; all_goals (first | (simp; done) | omega))
  · exact h.elim
theorem valid17 : Valid Try.prog 17 spSettle := by
  refine validI (Γ := lk [(48, spDuOk), (40, spIn), (49, spToDu), (50, spCarrB), (23, spDoEv)]) Try.func17 bod17 low17 res17 (good_of ⟨⟨cal48, valid48⟩, ⟨cal40, valid40⟩, ⟨cal49, valid49⟩, ⟨cal50, valid50⟩, ⟨cal23, valid23⟩, trivial⟩) ?_
  intro E args objs K h hE hG hP
  simp only [spSettle] at h
  split at h
  · refine ⟨by simp [Try.ntmps17], ?_⟩
    rename_i a x b y q n
    obtain ⟨b1, h⟩ := h
    cases hd : duOk ⟨a, x, b, y, q⟩
    · have e : settleD ⟨a, x, b, y, q⟩ n = ⟨0, 0, 0, 0, []⟩ := if_neg (fun e => by rw [hd] at e; cases e.1)
      rw [e] at h
      simp (config := { maxSteps := 2000000 }) only [go_sem, hG, hP, Nat.reduceEqDiff, ↓reduceIte, reduceCtorEq, Nat.reduceAdd, Nat.reduceSub, Nat.reduceMul, Nat.reduceLT, Nat.reduceLeDiff, Int.reduceAdd, Int.reduceSub, Int.reduceMul, Int.reduceLT, Int.reduceLE, Int.reduceEq, Int.reduceNeg, Int.reduceNe, Int.reduceGE, Int.reduceGT, Nat.reduceBEq, Int.reduceToNat,  spToDu_f, spToDu_t, spToDu_k, spDuOk_f, spDuOk_t, spDuOk_k, spIn_f, spIn_t, spIn_k, spCarrB_f, spCarrB_t, spCarrB_k, spDoEv_f, spDoEv_t, spDoEv_k, takeBoxH_eq, boxTk_eq, hd]
      repeat' (first | (refine And.intro ?_ ?_) | (with_reducible intro _))
      all_goals first | omega | (refine ⟨_, _, _, ?_, h⟩; simp only [duA_eq, duL_eq]; simp (config := { maxSteps := 2000000 }) only [go_sem, hG, hP, Nat.reduceEqDiff, ↓reduceIte, reduceCtorEq, Nat.reduceAdd, Nat.reduceSub, Nat.reduceMul, Nat.reduceLT, Nat.reduceLeDiff, Int.reduceAdd, Int.reduceSub, Int.reduceMul, Int.reduceLT, Int.reduceLE, Int.reduceEq, Int.reduceNeg, Int.reduceNe, Int.reduceGE, Int.reduceGT, Nat.reduceBEq, Int.reduceToNat]; all_goals (first | (simp; done) | omega))
    · by_cases hn : 0 ≤ n ∧ n ≤ 20
      rotate_left
      · have hne := eq_false hn
        have e : settleD ⟨a, x, b, y, q⟩ n = ⟨0, 0, 0, 0, []⟩ := if_neg (fun e => hn e.2)
        rw [e] at h
        simp (config := { maxSteps := 2000000 }) only [go_sem, hG, hP, Nat.reduceEqDiff, ↓reduceIte, reduceCtorEq, Nat.reduceAdd, Nat.reduceSub, Nat.reduceMul, Nat.reduceLT, Nat.reduceLeDiff, Int.reduceAdd, Int.reduceSub, Int.reduceMul, Int.reduceLT, Int.reduceLE, Int.reduceEq, Int.reduceNeg, Int.reduceNe, Int.reduceGE, Int.reduceGT, Nat.reduceBEq, Int.reduceToNat,  spToDu_f, spToDu_t, spToDu_k, spDuOk_f, spDuOk_t, spDuOk_k, spIn_f, spIn_t, spIn_k, spCarrB_f, spCarrB_t, spCarrB_k, spDoEv_f, spDoEv_t, spDoEv_k, takeBoxH_eq, boxTk_eq, hd, hne]
        repeat' (first | (refine And.intro ?_ ?_) | (with_reducible intro _))
        all_goals first | omega | (refine ⟨_, _, _, ?_, h⟩; simp only [duA_eq, duL_eq]; simp (config := { maxSteps := 2000000 }) only [go_sem, hG, hP, Nat.reduceEqDiff, ↓reduceIte, reduceCtorEq, Nat.reduceAdd, Nat.reduceSub, Nat.reduceMul, Nat.reduceLT, Nat.reduceLeDiff, Int.reduceAdd, Int.reduceSub, Int.reduceMul, Int.reduceLT, Int.reduceLE, Int.reduceEq, Int.reduceNeg, Int.reduceNe, Int.reduceGE, Int.reduceGT, Nat.reduceBEq, Int.reduceToNat]; all_goals (first | (simp; done) | omega))
      · have hne := eq_true hn
        obtain ⟨m, rfl⟩ : ∃ m : Nat, n = m := ⟨n.toNat, by omega⟩
        have e : settleD ⟨a, x, b, y, q⟩ m = carD (roundsD m ⟨a, x, b, y, q⟩) := by unfold settleD; rw [if_pos ⟨hd, hn⟩, Int.toNat_natCast]
        rw [e] at h
        simp (config := { maxSteps := 2000000 }) only [go_sem, hG, hP, Nat.reduceEqDiff, ↓reduceIte, reduceCtorEq, Nat.reduceAdd, Nat.reduceSub, Nat.reduceMul, Nat.reduceLT, Nat.reduceLeDiff, Int.reduceAdd, Int.reduceSub, Int.reduceMul, Int.reduceLT, Int.reduceLE, Int.reduceEq, Int.reduceNeg, Int.reduceNe, Int.reduceGE, Int.reduceGT, Nat.reduceBEq, Int.reduceToNat,  spToDu_f, spToDu_t, spToDu_k, spDuOk_f, spDuOk_t, spDuOk_k, spIn_f, spIn_t, spIn_k, spCarrB_f, spCarrB_t, spCarrB_k, spDoEv_f, spDoEv_t, spDoEv_k, takeBoxH_eq, boxTk_eq, hd, hne]
        repeat (refine And.intro (by first | omega | (simp; done) | (simp; omega) | (unfold appRoom; omega)) ?_)
        refine loopI hE (fun p : Nat × Du => ⟨[(2, .ptr 0 0), (4, .ptr 1 0), (5, .fn 50 [.ptr 0 0]), (19, .v (.int .i64 m)), (20, .v (.int .i64 p.1))], [(0, .box [.v (.int .i64 p.2.a), .v (.int .i64 p.2.x), .v (.int .i64 p.2.b), .v (.int .i64 p.2.y), .sub 2 3 0 p.2.q.length]), (1, .box [.v (.int .i64 0), .v (.int .i64 0), .v (.int .i64 0), .v (.int .i64 0), .v (.slice none 0 0)]), (2, .row .sig p.2.q)], 3, Try.f17.ntmps⟩) (fun p => p.1 ≤ m ∧ p.2 = roundsD p.1 ⟨a, x, b, y, q⟩) (fun p => m - p.1) ⟨(0, ⟨a, x, b, y, q⟩), ⟨Nat.zero_le _, rfl⟩, SubS.weak ?_⟩ ?_
        · simp (config := { maxSteps := 2000000 }) only [go_sem, hG, hP, Nat.reduceEqDiff, ↓reduceIte, reduceCtorEq, Nat.reduceAdd, Nat.reduceSub, Nat.reduceMul, Nat.reduceLT, Nat.reduceLeDiff, Int.reduceAdd, Int.reduceSub, Int.reduceMul, Int.reduceLT, Int.reduceLE, Int.reduceEq, Int.reduceNeg, Int.reduceNe, Int.reduceGE, Int.reduceGT, Nat.reduceBEq, Int.reduceToNat]
          all_goals simp
        · rintro ⟨j, ⟨a', x', b', y', q'⟩⟩ ⟨hj, hr⟩
          dsimp only at hj hr
          have hd' : duOk ⟨a', x', b', y', q'⟩ = true := by rw [hr]; exact roundsD_ok hd _
          have hcd := carD_ok hd'
          rcases hc : carD ⟨a', x', b', y', q'⟩ with ⟨c1, c2, c3, c4, cq⟩
          rw [hc] at hcd
          obtain ⟨hcd, rfl⟩ : duOk ⟨c1, c2, c3, c4, cq⟩ = true ∧ cq = [] := hcd
          have hl' := (duOk_head hd').2
          dsimp only at hl'
          by_cases hq : q' = []
          · subst hq
            have hcs : carD ⟨a', x', b', y', []⟩ = ⟨a', x', b', y', []⟩ := carF_done rfl _
            rw [hcs] at hc
            cases hc
            by_cases hlt : (j : Int) < (m : Int)
            · have hlte := eq_true hlt
              have ht0 := timer_do (p := 0) hcd (by show 0 < 40; decide) (.inl rfl)
              have htk := timer_ok (p := 0) hcd (by show 0 < 40; decide)
              rcases hv0 : timer ⟨a', x', b', y', []⟩ 0 with ⟨e1, e2, e3, e4, eq⟩
              rw [hv0] at ht0 htk
              have htk2 : eq.length ≤ 1 := by have := htk.2; simpa using this
              have ht1 := timer_do (p := 1) htk.1 (by dsimp only; omega) (.inr rfl)
              rcases hv1 : timer ⟨e1, e2, e3, e4, eq⟩ 1 with ⟨f1, f2, f3, f4, fq⟩
              rw [hv1] at ht1
              simp (config := { maxSteps := 2000000 }) only [go_sem, hG, hP, Nat.reduceEqDiff, ↓reduceIte, reduceCtorEq, Nat.reduceAdd, Nat.reduceSub, Nat.reduceMul, Nat.reduceLT, Nat.reduceLeDiff, Int.reduceAdd, Int.reduceSub, Int.reduceMul, Int.reduceLT, Int.reduceLE, Int.reduceEq, Int.reduceNeg, Int.reduceNe, Int.reduceGE, Int.reduceGT, Nat.reduceBEq, Int.reduceToNat,  spToDu_f, spToDu_t, spToDu_k, spDuOk_f, spDuOk_t, spDuOk_k, spIn_f, spIn_t, spIn_k, spCarrB_f, spCarrB_t, spCarrB_k, spDoEv_f, spDoEv_t, spDoEv_k, takeBoxH_eq, boxTk_eq, hd', hcs, hlte]
              repeat (refine And.intro (by first | omega | (simp; done) | (simp; omega) | (unfold appRoom; omega)) ?_)
              refine unrollI hE [(), (), ()] ?_
              simp (config := { maxSteps := 2000000 }) only [go_sem, hG, hP, Nat.reduceEqDiff, ↓reduceIte, reduceCtorEq, Nat.reduceAdd, Nat.reduceSub, Nat.reduceMul, Nat.reduceLT, Nat.reduceLeDiff, Int.reduceAdd, Int.reduceSub, Int.reduceMul, Int.reduceLT, Int.reduceLE, Int.reduceEq, Int.reduceNeg, Int.reduceNe, Int.reduceGE, Int.reduceGT, Nat.reduceBEq, Int.reduceToNat,  spToDu_f, spToDu_t, spToDu_k, spDuOk_f, spDuOk_t, spDuOk_k, spIn_f, spIn_t, spIn_k, spCarrB_f, spCarrB_t, spCarrB_k, spDoEv_f, spDoEv_t, spDoEv_k, takeBoxH_eq, boxTk_eq, ht0, ht1, duA_eq, duL_eq]
              (try simp (disch := omega) only [wrap_id])
              repeat' (first | (refine And.intro ?_ ?_) | (with_reducible intro _))
              all_goals try omega
              refine ⟨(j + 1, ⟨f1, f2, f3, f4, fq⟩), ⟨⟨by dsimp only; omega, by show _ = roundD _; rw [← hr]; unfold roundD; rw [hcs, hv0, hv1]⟩, by dsimp only; omega⟩, SubS.weak ?_⟩
              simp (config := { maxSteps := 2000000 }) only [go_sem, hG, hP, Nat.reduceEqDiff, ↓reduceIte, reduceCtorEq, Nat.reduceAdd, Nat.reduceSub, Nat.reduceMul, Nat.reduceLT, Nat.reduceLeDiff, Int.reduceAdd, Int.reduceSub, Int.reduceMul, Int.reduceLT, Int.reduceLE, Int.reduceEq, Int.reduceNeg, Int.reduceNe, Int.reduceGE, Int.reduceGT, Nat.reduceBEq, Int.reduceToNat]
              all_goals simp
            · have hlte := eq_false hlt
              obtain rfl : j = m := by omega
              rw [← hr, hcs] at h
              simp (config := { maxSteps := 2000000 }) only [go_sem, hG, hP, Nat.reduceEqDiff, ↓reduceIte, reduceCtorEq, Nat.reduceAdd, Nat.reduceSub, Nat.reduceMul, Nat.reduceLT, Nat.reduceLeDiff, Int.reduceAdd, Int.reduceSub, Int.reduceMul, Int.reduceLT, Int.reduceLE, Int.reduceEq, Int.reduceNeg, Int.reduceNe, Int.reduceGE, Int.reduceGT, Nat.reduceBEq, Int.reduceToNat,  spToDu_f, spToDu_t, spToDu_k, spDuOk_f, spDuOk_t, spDuOk_k, spIn_f, spIn_t, spIn_k, spCarrB_f, spCarrB_t, spCarrB_k, spDoEv_f, spDoEv_t, spDoEv_k, takeBoxH_eq, boxTk_eq, hd', hcs, hlte]
              repeat' (first | (refine And.intro ?_ ?_) | (with_reducible intro _))
              all_goals first | omega | (refine ⟨_, _, _, ?_, h⟩; simp only [duA_eq, duL_eq]; simp (config := { maxSteps := 2000000 }) only [go_sem, hG, hP, Nat.reduceEqDiff, ↓reduceIte, reduceCtorEq, Nat.reduceAdd, Nat.reduceSub, Nat.reduceMul, Nat.reduceLT, Nat.reduceLeDiff, Int.reduceAdd, Int.reduceSub, Int.reduceMul, Int.reduceLT, Int.reduceLE, Int.reduceEq, Int.reduceNeg, Int.reduceNe, Int.reduceGE, Int.reduceGT, Nat.reduceBEq, Int.reduceToNat]; all_goals (first | (simp; done) | omega))
          · have hqe := eq_false hq
            by_cases hlt : (j : Int) < (m : Int)
            · have hlte := eq_true hlt
              have ht0 := timer_do (p := 0) hcd (by show 0 < 40; decide) (.inl rfl)
              have htk := timer_ok (p := 0) hcd (by show 0 < 40; decide)
              rcases hv0 : timer ⟨c1, c2, c3, c4, []⟩ 0 with ⟨e1, e2, e3, e4, eq⟩
              rw [hv0] at ht0 htk
              have htk2 : eq.length ≤ 1 := by have := htk.2; simpa using this
              have ht1 := timer_do (p := 1) htk.1 (by dsimp only; omega) (.inr rfl)
              rcases hv1 : timer ⟨e1, e2, e3, e4, eq⟩ 1 with ⟨f1, f2, f3, f4, fq⟩
              rw [hv1] at ht1
              simp (config := { maxSteps := 2000000 }) only [go_sem, hG, hP, Nat.reduceEqDiff, ↓reduceIte, reduceCtorEq, Nat.reduceAdd, Nat.reduceSub, Nat.reduceMul, Nat.reduceLT, Nat.reduceLeDiff, Int.reduceAdd, Int.reduceSub, Int.reduceMul, Int.reduceLT, Int.reduceLE, Int.reduceEq, Int.reduceNeg, Int.reduceNe, Int.reduceGE, Int.reduceGT, Nat.reduceBEq, Int.reduceToNat,  spToDu_f, spToDu_t, spToDu_k, spDuOk_f, spDuOk_t, spDuOk_k, spIn_f, spIn_t, spIn_k, spCarrB_f, spCarrB_t, spCarrB_k, spDoEv_f, spDoEv_t, spDoEv_k, takeBoxH_eq, boxTk_eq, hd', hqe, hc, hlte]
              repeat (refine And.intro (by first | omega | (simp; done) | (simp; omega) | (unfold appRoom; omega)) ?_)
              refine unrollI hE [(), (), ()] ?_
              simp (config := { maxSteps := 2000000 }) only [go_sem, hG, hP, Nat.reduceEqDiff, ↓reduceIte, reduceCtorEq, Nat.reduceAdd, Nat.reduceSub, Nat.reduceMul, Nat.reduceLT, Nat.reduceLeDiff, Int.reduceAdd, Int.reduceSub, Int.reduceMul, Int.reduceLT, Int.reduceLE, Int.reduceEq, Int.reduceNeg, Int.reduceNe, Int.reduceGE, Int.reduceGT, Nat.reduceBEq, Int.reduceToNat,  spToDu_f, spToDu_t, spToDu_k, spDuOk_f, spDuOk_t, spDuOk_k, spIn_f, spIn_t, spIn_k, spCarrB_f, spCarrB_t, spCarrB_k, spDoEv_f, spDoEv_t, spDoEv_k, takeBoxH_eq, boxTk_eq, ht0, ht1, duA_eq, duL_eq]
              (try simp (disch := omega) only [wrap_id])
              repeat' (first | (refine And.intro ?_ ?_) | (with_reducible intro _))
              all_goals try omega
              refine ⟨(j + 1, ⟨f1, f2, f3, f4, fq⟩), ⟨⟨by dsimp only; omega, by show _ = roundD _; rw [← hr]; unfold roundD; rw [hc, hv0, hv1]⟩, by dsimp only; omega⟩, SubS.weak ?_⟩
              simp (config := { maxSteps := 2000000 }) only [go_sem, hG, hP, Nat.reduceEqDiff, ↓reduceIte, reduceCtorEq, Nat.reduceAdd, Nat.reduceSub, Nat.reduceMul, Nat.reduceLT, Nat.reduceLeDiff, Int.reduceAdd, Int.reduceSub, Int.reduceMul, Int.reduceLT, Int.reduceLE, Int.reduceEq, Int.reduceNeg, Int.reduceNe, Int.reduceGE, Int.reduceGT, Nat.reduceBEq, Int.reduceToNat]
              all_goals simp
            · have hlte := eq_false hlt
              obtain rfl : j = m := by omega
              rw [← hr, hc] at h
              simp (config := { maxSteps := 2000000 }) only [go_sem, hG, hP, Nat.reduceEqDiff, ↓reduceIte, reduceCtorEq, Nat.reduceAdd, Nat.reduceSub, Nat.reduceMul, Nat.reduceLT, Nat.reduceLeDiff, Int.reduceAdd, Int.reduceSub, Int.reduceMul, Int.reduceLT, Int.reduceLE, Int.reduceEq, Int.reduceNeg, Int.reduceNe, Int.reduceGE, Int.reduceGT, Nat.reduceBEq, Int.reduceToNat,  spToDu_f, spToDu_t, spToDu_k, spDuOk_f, spDuOk_t, spDuOk_k, spIn_f, spIn_t, spIn_k, spCarrB_f, spCarrB_t, spCarrB_k, spDoEv_f, spDoEv_t, spDoEv_k, takeBoxH_eq, boxTk_eq, hd', hqe, hc, hlte]
              repeat' (first | (refine And.intro ?_ ?_) | (with_reducible intro _))
              all_goals first | omega | (refine ⟨_, _, _, ?_, h⟩; simp only [duA_eq, duL_eq]; simp (config := { maxSteps := 2000000 }) only [go_sem, hG, hP, Nat.reduceEqDiff, ↓reduceIte, reduceCtorEq, Nat.reduceAdd, Nat.reduceSub, Nat.reduceMul, Nat.reduceLT, Nat.reduceLeDiff, Int.reduceAdd, Int.reduceSub, Int.reduceMul, Int.reduceLT, Int.reduceLE, Int.reduceEq, Int.reduceNeg, Int.reduceNe, Int.reduceGE, Int.reduceGT, Nat.reduceBEq, Int.reduceToNat]; all_goals (first | (simp; done) | omega))
  · exact h.elim
end Go.Proofs.YtiakjdcognckpaaE

/-! The code of a function, in the engine's words. -/
namespace Go.Proofs.YtiakjdcognckpaaE
open Go Go.RowKit
@[reducible] def ic4 : IC := (.seq (.ops [⟨some 2, .box (.tmp 0), none⟩, ⟨some 4, .mov (.const (.bool false)), none⟩]) (.seq (.ops [⟨some 5, .mov (.const (.int .i64 1048576)), none⟩]) (.seq (.ops [⟨some 13, .load 5 true (.tmp 2), none⟩, ⟨some 14, .mov (.tmp 5), none⟩, ⟨some 15, .call 14 [(.tmp 13), (.tmp 14)], none⟩, ⟨some 5, .mov (.tmp 15), none⟩]) (.seq (.seq (.ops [⟨some 16, .mov (.tmp 5), none⟩, ⟨some 17, .bin .lss (.tmp 16) (.const (.int .i64 0)), none⟩]) (.cond (.tmp 17) (.seq (.ops [⟨some 4, .mov (.const (.bool true)), none⟩]) .ret) .skip)) (.seq (.ops [⟨some 18, .load 5 true (.tmp 2), none⟩, ⟨some 19, .call 16 [(.tmp 18)], none⟩, ⟨some 20, .mov (.tmp 1), none⟩, ⟨some 21, .call 15 [(.tmp 19), (.tmp 20)], none⟩, ⟨some 6, .new [(.int .i64 0), (.int .i64 0), (.int .i64 0), (.int .i64 0), (.slice none 0 0)], none⟩, ⟨none, .store 5 (.tmp 6) (.tmp 21), none⟩]) (.seq (.ops [⟨some 22, .load 5 true (.tmp 2), none⟩, ⟨some 23, .call 16 [(.tmp 22)], none⟩, ⟨some 7, .new [(.int .i64 0), (.int .i64 0), (.int .i64 0), (.int .i64 0), (.slice none 0 0)], none⟩, ⟨none, .store 5 (.tmp 7) (.tmp 23), none⟩]) (.seq (.ops [⟨some 24, .load 5 true (.tmp 7), none⟩, ⟨some 25, .mov (.tmp 1), none⟩, ⟨some 26, .call 17 [(.tmp 24), (.tmp 25)], none⟩, ⟨some 8, .new [(.int .i64 0), (.int .i64 0), (.int .i64 0), (.int .i64 0), (.slice none 0 0)], none⟩, ⟨none, .store 5 (.tmp 8) (.tmp 26), none⟩]) (.seq (.seq (.ops [⟨some 27, .load 5 true (.tmp 8), none⟩, ⟨some 28, .load 5 true (.tmp 6), none⟩, ⟨some 29, .call 18 [(.tmp 27), (.tmp 28)], none⟩, ⟨some 30, .una .not (.tmp 29), none⟩]) (.cond (.tmp 30) (.seq (.ops [⟨some 4, .mov (.const (.bool false)), none⟩]) .ret) .skip)) (.seq (.seq (.draw [⟨some 31, .load 5 true (.tmp 7), none⟩, ⟨some 32, .load 5 true (.tmp 2), none⟩, ⟨some 33, .call 16 [(.tmp 32)], none⟩, ⟨some 34, .call 18 [(.tmp 31), (.tmp 33)], none⟩, ⟨some 35, .una .not (.tmp 34), none⟩] (.held ⟨some 31, .load 5 true (.tmp 7), none⟩ (.held ⟨some 32, .load 5 true (.tmp 2), none⟩ (.alt ⟨some 33, .call 16 [(.tmp 32)], none⟩ (.alt ⟨some 34, .call 18 [(.tmp 31), (.tmp 33)], none⟩ (.held ⟨some 35, .una .not (.tmp 34), none⟩ .done) .stop) .stop)))) (.cond (.tmp 35) (.seq (.ops [⟨some 4, .mov (.const (.bool false)), none⟩]) .ret) .skip)) (.seq (.ops [⟨some 9, .mov (.const (.int .i64 1)), none⟩]) (.seq (.ops [⟨some 36, .load 5 true (.tmp 7), none⟩, ⟨some 37, .mov (.tmp 9), none⟩, ⟨some 38, .call 19 [(.tmp 36), (.tmp 37)], none⟩, ⟨some 9, .mov (.tmp 38), none⟩]) (.seq (.seq (.ops [⟨some 39, .mov (.tmp 9), none⟩, ⟨some 40, .bin .lss (.tmp 39) (.const (.int .i64 0)), none⟩, ⟨some 41, .mov (.tmp 40), none⟩, ⟨some 42, .load 5 true (.tmp 8), some (41, false)⟩, ⟨some 43, .load 5 true (.tmp 6), some (41, false)⟩, ⟨some 44, .call 18 [(.tmp 42), (.tmp 43)], some (41, false)⟩, ⟨some 45, .una .not (.tmp 44), some (41, false)⟩, ⟨some 46, .pick (.tmp 41) (.const (.bool true)) (.tmp 45), none⟩]) (.cond (.tmp 46) (.seq (.ops [⟨some 4, .mov (.const (.bool false)), none⟩]) .ret) .skip)) (.seq (.ops [⟨some 10, .mov (.const (.int .i64 1)), none⟩]) (.seq (.ops [⟨some 47, .load 5 true (.tmp 8), none⟩, ⟨some 48, .mov (.tmp 10), none⟩, ⟨some 49, .call 19 [(.tmp 47), (.tmp 48)], none⟩, ⟨some 10, .mov (.tmp 49), none⟩]) (.seq (.ops [⟨some 11, .mov (.const (.int .i64 1)), none⟩]) (.seq (.ops [⟨some 50, .load 5 true (.tmp 8), none⟩, ⟨some 51, .mov (.tmp 11), none⟩, ⟨some 52, .call 20 [(.tmp 50), (.tmp 51)], none⟩, ⟨some 11, .mov (.tmp 52), none⟩]) (.seq (.seq (.ops [⟨some 53, .mov (.tmp 11), none⟩, ⟨some 54, .bin .lss (.tmp 53) (.const (.int .i64 0)), none⟩]) (.cond (.tmp 54) (.seq (.ops [⟨some 4, .mov (.const (.bool false)), none⟩]) .ret) .skip)) (.seq (.seq (.ops [⟨some 55, .mov (.tmp 11), none⟩, ⟨some 56, .mov (.tmp 10), none⟩, ⟨some 57, .bin .neq (.tmp 55) (.tmp 56), none⟩]) (.cond (.tmp 57) (.seq (.ops [⟨some 4, .mov (.const (.bool false)), none⟩]) .ret) .skip)) (.seq (.ops [⟨some 58, .load 5 true (.tmp 2), none⟩, ⟨some 59, .call 16 [(.tmp 58)], none⟩, ⟨some 60, .mov (.tmp 1), none⟩, ⟨some 61, .call 17 [(.tmp 59), (.tmp 60)], none⟩, ⟨some 12, .new [(.int .i64 0), (.int .i64 0), (.int .i64 0), (.int .i64 0), (.slice none 0 0)], none⟩, ⟨none, .store 5 (.tmp 12) (.tmp 61), none⟩]) (.seq (.seq (.ops [⟨some 62, .load 5 true (.tmp 12), none⟩, ⟨some 63, .load 5 true (.tmp 6), none⟩, ⟨some 64, .call 18 [(.tmp 62), (.tmp 63)], none⟩, ⟨some 65, .una .not (.tmp 64), none⟩]) (.cond (.tmp 65) (.seq (.ops [⟨some 4, .mov (.const (.bool false)), none⟩]) .ret) .skip)) (.seq (.ops [⟨some 11, .mov (.const (.int .i64 1)), none⟩]) (.seq (.ops [⟨some 66, .load 5 true (.tmp 8), none⟩, ⟨some 67, .mov (.tmp 11), none⟩, ⟨some 68, .call 20 [(.tmp 66), (.tmp 67)], none⟩, ⟨some 11, .mov (.tmp 68), none⟩]) (.seq (.seq (.ops [⟨some 69, .mov (.tmp 11), none⟩, ⟨some 70, .bin .lss (.tmp 69) (.const (.int .i64 0)), none⟩]) (.cond (.tmp 70) (.seq (.ops [⟨some 4, .mov (.const (.bool false)), none⟩]) .ret) .skip)) (.seq (.seq (.ops [⟨some 71, .mov (.tmp 11), none⟩, ⟨some 72, .mov (.tmp 10), none⟩, ⟨some 73, .bin .neq (.tmp 71) (.tmp 72), none⟩]) (.cond (.tmp 73) (.seq (.ops [⟨some 4, .mov (.const (.bool false)), none⟩]) .ret) .skip)) (.seq (.ops [⟨some 4, .mov (.const (.bool true)), none⟩]) .ret)))))))))))))))))))))))))
@[reducible] def rv4 : List RV := [.tmp 4]
theorem low4 : lowC Try.prog tau Try.f4.ntmps (Try.f4.body.getD .skip) = some (erase ic4) := by kernel_rfl
theorem res4 : lowR Try.prog Try.f4.results.toList = some rv4 := by kernel_rfl
theorem bod4 : Try.f4.body = some (Try.f4.body.getD .skip) := by kernel_rfl
theorem cal4 : callable Try.prog 4 = true := by kernel_rfl

end Go.Proofs.YtiakjdcognckpaaE

/-! The law of Settle. -/
namespace Go.Proofs.YtiakjdcognckpaaE
open Go Go.RowKit
set_option linter.unusedSimpArgs false
set_option linter.unusedVariables false
set_option maxRecDepth 20000
set_option maxHeartbeats 4000000

def spLaw4 : Spec := ⟨fun _ _ => [], fun args objs K => match args, objs with
  | [.agg [.v (.int .i64 a), .v (.int .i64 x), .v (.int .i64 b), .v (.int .i64 y), .rs .sig q], .v (.int .i64 n)], [] => q.length ≤ 17592186044416 ∧ K (.v (.bool true)) [] 0
  | _, _ => False, false⟩
theorem spLaw4_t {L : Hp} {a : List AVal} : Spec.take spLaw4 L a = [] := id rfl
theorem spLaw4_k : Spec.keep spLaw4 = false := id rfl
theorem spLaw4_f {a} {x} {b} {y} {q} {n} {K : AVal → Hp → Nat → Prop} : Spec.f spLaw4 ([.agg [.v (.int .i64 a), .v (.int .i64 x), .v (.int .i64 b), .v (.int .i64 y), .rs .sig q], .v (.int .i64 n)]) ([]) K = (q.length ≤ 17592186044416 ∧ K (.v (.bool true)) [] 0) := id rfl
theorem valid4 : Valid Try.prog 4 spLaw4 := by
  refine validI (Γ := lk [(14, spSzDu), (16, spToDu), (15, spSettle), (17, spSettle), (18, spEqDu), (19, spMarkDu), (20, spHeldDu)]) Try.func4 bod4 low4 res4 (good_of ⟨⟨cal14, valid14⟩, ⟨cal16, valid16⟩, ⟨cal15, valid15⟩, ⟨cal17, valid17⟩, ⟨cal18, valid18⟩, ⟨cal19, valid19⟩, ⟨cal20, valid20⟩, trivial⟩) ?_
  intro E args objs K h hE hG hP
  simp only [spLaw4] at h
  split at h
  · refine ⟨by simp [Try.ntmps4], ?_⟩
    rename_i a x b y q n
    obtain ⟨b1, h⟩ := h
    rcases hl : settleD ⟨a, x, b, y, q⟩ n with ⟨a', x', b', y', q'⟩
    obtain rfl : q' = [] := by have := settleD_q ⟨a, x, b, y, q⟩ n; rw [hl] at this; exact this
    by_cases hs : szStep q.length 1048576 < 0
    · have hse := eq_true hs
      simp (config := { maxSteps := 2000000 }) only [go_sem, hG, hP, Nat.reduceEqDiff, ↓reduceIte, reduceCtorEq, Nat.reduceAdd, Nat.reduceSub, Nat.reduceMul, Nat.reduceLT, Nat.reduceLeDiff, Int.reduceAdd, Int.reduceSub, Int.reduceMul, Int.reduceLT, Int.reduceLE, Int.reduceEq, Int.reduceNeg, Int.reduceNe, Int.reduceGE, Int.reduceGT, Nat.reduceBEq, Int.reduceToNat,  spSzDu_f, spSzDu_t, spSzDu_k, spToDu_f, spToDu_t, spToDu_k, spSettle_f, spSettle_t, spSettle_k, spEqDu_f, spEqDu_t, spEqDu_k, spMarkDu_f, spMarkDu_t, spMarkDu_k, spHeldDu_f, spHeldDu_t, spHeldDu_k, hl, duA_eq, duL_eq, takeA5_eq, bb_self, take_sm, sigMarks_len, held_sm, hse]
      repeat' (first | (refine And.intro ?_ ?_) | (with_reducible intro _))
      all_goals first | omega | (refine ⟨_, _, _, ?_, h⟩; simp (config := { maxSteps := 2000000 }) only [go_sem, hG, hP, Nat.reduceEqDiff, ↓reduceIte, reduceCtorEq, Nat.reduceAdd, Nat.reduceSub, Nat.reduceMul, Nat.reduceLT, Nat.reduceLeDiff, Int.reduceAdd, Int.reduceSub, Int.reduceMul, Int.reduceLT, Int.reduceLE, Int.reduceEq, Int.reduceNeg, Int.reduceNe, Int.reduceGE, Int.reduceGT, Nat.reduceBEq, Int.reduceToNat]; all_goals (first | (simp; done) | omega))
    · have hz := szStep_len (by omega) hs
      have hse := eq_false hs
      have n2 : ((1 : Int) + 3 * (q.length : Int) < 0) = False := by apply eq_false; omega
      simp (config := { maxSteps := 2000000 }) only [go_sem, hG, hP, Nat.reduceEqDiff, ↓reduceIte, reduceCtorEq, Nat.reduceAdd, Nat.reduceSub, Nat.reduceMul, Nat.reduceLT, Nat.reduceLeDiff, Int.reduceAdd, Int.reduceSub, Int.reduceMul, Int.reduceLT, Int.reduceLE, Int.reduceEq, Int.reduceNeg, Int.reduceNe, Int.reduceGE, Int.reduceGT, Nat.reduceBEq, Int.reduceToNat,  spSzDu_f, spSzDu_t, spSzDu_k, spToDu_f, spToDu_t, spToDu_k, spSettle_f, spSettle_t, spSettle_k, spEqDu_f, spEqDu_t, spEqDu_k, spMarkDu_f, spMarkDu_t, spMarkDu_k, spHeldDu_f, spHeldDu_t, spHeldDu_k, hl, duA_eq, duL_eq, takeA5_eq, bb_self, take_sm, sigMarks_len, held_sm, hse, n2]
      repeat' (first | (refine And.intro ?_ ?_) | (with_reducible intro _))
      all_goals first | omega | (refine ⟨_, _, _, ?_, h⟩; simp (config := { maxSteps := 2000000 }) only [go_sem, hG, hP, Nat.reduceEqDiff, ↓reduceIte, reduceCtorEq, Nat.reduceAdd, Nat.reduceSub, Nat.reduceMul, Nat.reduceLT, Nat.reduceLeDiff, Int.reduceAdd, Int.reduceSub, Int.reduceMul, Int.reduceLT, Int.reduceLE, Int.reduceEq, Int.reduceNeg, Int.reduceNe, Int.reduceGE, Int.reduceGT, Nat.reduceBEq, Int.reduceToNat]; all_goals (first | (simp; done) | omega))
  · exact h.elim
end Go.Proofs.YtiakjdcognckpaaE

/-! What an argument of a law reads as, in the engine's words; and what a proved function gives a law. -/
namespace Go.Proofs.YtiakjdcognckpaaE
open Go Go.RowKit Go.ChangeShapes Go.WideShapes
set_option linter.unusedSimpArgs false
set_option linter.unusedVariables false

def nm0 : Nm := fun _ => none
def noC : CR := ⟨fun _ => False, fun _ => False, fun _ h => h⟩
/-- What type t's data read as, by d; ok: what is known of it. -/
def Tells (P : Program) (t : TypeId) {α : Type} (n : Nat) (d : α → List AVal) (ok : α → Prop) : Prop :=
  ∀ (H : Type) (enc : TypeId × Value → H) (W : World) (base : Nat) (spare : Nat → Bool) (held : Bool) (fuel : Nat) (cs : List Value) (x : DataW H × List MemPlace),
    DataW.trod enc P W base spare held fuel t cs = some x → (∀ b ∈ x.1.weights P t, b ≤ reachBytes) → ∃ y : α, (DenL W noC nm0 (d y) cs ∧ cs.length = n) ∧ ok y
def TellsF (P : Program) (fs : List Field) (off : Nat) {α : Type} (n : Nat) (d : α → List AVal) (ok : α → Prop) : Prop :=
  ∀ (H : Type) (enc : TypeId × Value → H) (W : World) (base : Nat) (spare : Nat → Bool) (held : Bool) (fuel : Nat) (cs : List Value) (xs : List (DataW H × List MemPlace)),
    (∀ (i : Nat) (f : Field), fs[i]? = some f → DataW.trod enc P W base spare held fuel f.type ((cs.drop f.offset).take (P.cellsOf f.type)) = xs[i]?) → xs.length = fs.length → cs.length = off + n →
    (∀ (i : Nat) (f : Field) x, fs[i]? = some f → xs[i]? = some x → ∀ b ∈ x.1.weights P f.type, b ≤ reachBytes) → ∃ y : α, (DenL W noC nm0 (d y) (cs.drop off)) ∧ ok y

theorem den1 {W : World} (v : Value) : DenL W noC nm0 [.v v] [v] := DenL.cons (.v v) .nil
theorem Tells.int {P : Program} {t : TypeId} {k : IntKind} (ht : P.underlying t = some (.int k)) : Tells P t 1 (fun n : Int => [.v (.int k n)]) (fun n => (Lit.int k n).wf = true) := by
  intro H enc W base spare held fuel cs x h _
  cases fuel with
  | zero => simp [DataW.trod] at h
  | succ m =>
    unfold DataW.trod at h
    rw [ht] at h
    split at h <;> simp_all
    obtain ⟨⟨_, h1⟩, _⟩ := h
    exact ⟨_, den1 _, h1⟩
theorem Tells.bool {P : Program} {t : TypeId} (ht : P.underlying t = some .bool) : Tells P t 1 (fun b : Bool => [.v (.bool b)]) (fun _ => True) := by
  intro H enc W base spare held fuel cs x h _
  cases fuel with
  | zero => simp [DataW.trod] at h
  | succ m =>
    unfold DataW.trod at h
    rw [ht] at h
    split at h <;> simp_all
    rename_i b
    cases b
    · exact .inl (den1 _)
    · exact .inr (den1 _)
theorem Tells.string {P : Program} {t : TypeId} (ht : P.underlying t = some .string) : Tells P t 1 (fun s : ByteArray => [.v (.string s)]) (fun s => s.size ≤ 140737488351232) := by
  intro H enc W base spare held fuel cs x h hw
  cases fuel with
  | zero => simp [DataW.trod] at h
  | succ m =>
    unfold DataW.trod at h
    rw [ht] at h
    split at h <;> simp_all
    obtain ⟨_, h2⟩ := h
    subst h2
    refine ⟨_, den1 _, ?_⟩
    have := hw _ (by simp only [DataW.weights]; exact List.mem_singleton.2 rfl)
    rw [Array.length_toList] at this
    exact this
theorem weights_all {H : Type} {P : Program} {e : TypeId} {ds : List (DataW H)} {d : DataW H} (hd : d ∈ ds) {b : Nat} (hb : b ∈ d.weights P e) : b ∈ DataW.weightsAll P e ds := by
  induction ds with
  | nil => cases hd
  | cons a r ih =>
    simp only [DataW.weightsAll, List.mem_append]
    rcases List.mem_cons.1 hd with rfl | hd
    · exact .inl hb
    · exact .inr (ih hd)
theorem Tells.slice {P : Program} {t e : TypeId} (ht : P.underlying t = some (.slice e)) {τ : Ty} {ok : τ.D → Prop} (he : Tells P e (sz τ) (enc τ) ok) (hs : P.cellsOf e = sz τ) {B : Nat} (hB : P.bytesOf e = B) :
    Tells P t 1 (fun xs : List τ.D => [.rs τ xs]) (fun xs => xs.length * B ≤ 140737488351232 ∧ xs.length ≤ maxLen ∧ ∀ x ∈ xs, ok x) := by
  intro H enc' W base spare held fuel cs x h hw
  rcases Go.Deep.open_slice ht h with ⟨rfl, rfl⟩ | ⟨a, len, cap, m, n, D, Pl, rfl, hb, hl, hm, hmm, rfl, hx⟩
  · exact ⟨[], ⟨DenL.cons (Den.rs (t := τ) (xs := []) (A := none) (c := 0) (fun _ => undef) (.inl (by simp)) (Nat.le_refl _) (fun i f x av hx => by simp at hx)) .nil, rfl⟩, by simp [maxLen]⟩
  · have hlm : len ≤ m := by rw [hmm]; split <;> omega
    have hel : ∀ i, i < len → ∃ y : τ.D, (∃ c, W.cells? base (a.add (i * P.cellsOf e)) (P.cellsOf e) = some c ∧ (DenL W noC nm0 (enc τ y) c ∧ c.length = sz τ)) ∧ ok y := by
      intro i hi
      obtain ⟨c, hc, hd⟩ := hx i (by omega)
      obtain ⟨y, hy, hok⟩ := he H enc' W base spare held n c _ hd (fun b hb => hw b (by
        simp only [DataW.weights, ht, List.mem_cons, List.mem_append]
        exact .inr (.inl (weights_all (List.mem_map.2 ⟨i, List.mem_range.2 hi, rfl⟩) hb))))
      exact ⟨y, ⟨c, hc, hy⟩, hok⟩
    have : Inhabited τ.D := ⟨dflt τ⟩
    obtain ⟨f, hf⟩ := Go.Deep.choose_lt hel
    have hlen : ((List.range len).map f).length = len := by simp
    have hcell : ∀ i, i < len → ∃ c, DenL W noC nm0 (enc τ (f i)) c ∧ c.length = sz τ ∧ ∀ j, j < sz τ → W.cell? (a.add (i * sz τ + j)) = c[j]? := by
      intro i hi
      obtain ⟨⟨c, hc, hd, hcl⟩, _⟩ := hf i hi
      refine ⟨c, hd, hcl, fun j hj => ?_⟩
      have hc' := World.cells?_some hc
      rw [hs] at hc'
      have := hc'.2.2 j hj
      rw [← this, Go.Deep.add_add]
    have hall : ∀ k, k < len * sz τ → ∃ u, W.cell? (a.add k) = some u := by
      intro k hk
      have hz := sz_pos τ
      have hi : k / sz τ < len := Nat.div_lt_of_lt_mul (by rw [Nat.mul_comm]; exact hk)
      have hj : k % sz τ < sz τ := Nat.mod_lt _ hz
      obtain ⟨c, _, hcl, hc⟩ := hcell _ hi
      refine ⟨c[k % sz τ]'(by omega), ?_⟩
      have := hc _ hj
      rw [show k / sz τ * sz τ + k % sz τ = k by rw [Nat.mul_comm]; exact Nat.div_add_mod k (sz τ)] at this
      rw [this, List.getElem?_eq_getElem]
    refine ⟨(List.range len).map f, ⟨DenL.cons ?_ .nil, rfl⟩, ?_, by rw [hlen]; exact Nat.le_trans hl hm, ?_⟩
    · have key : Den W noC nm0 (.rs τ ((List.range len).map f)) (.slice (some a) ((List.range len).map f).length cap) := by
        refine .rs (fun k => (W.cell? (a.add k)).getD undef) ?_ (by rw [hlen]; exact hl) ?_
        · rw [hlen]
          rcases Nat.eq_zero_or_pos (len * sz τ) with h0 | hp
          · exact .inl h0
          · obtain ⟨u, hu⟩ := hall 0 hp
            refine .inr ⟨a, rfl, ?_, fun h => h, fun k hk => ?_⟩
            · have := World.block_lt_of_cell? _ _ hu
              simpa [Addr.add] using this
            · obtain ⟨u, hu⟩ := hall k hk
              simp [hu]
        · intro i j x av hx hav
          have hi : i < len := by
            have := (List.getElem?_eq_some_iff.1 hx).1
            rwa [hlen] at this
          have hx' : f i = x := by simpa [hi] using hx
          subst hx'
          obtain ⟨c, hd, hcl, hc⟩ := hcell i hi
          have hj : j < sz τ := by
            have := (List.getElem?_eq_some_iff.1 hav).1
            rwa [enc_length] at this
          have := hc j hj
          rw [this, List.getElem?_eq_getElem (by omega)]
          exact hd.2 j av _ hav (List.getElem?_eq_getElem (by omega))
      rw [hlen] at key
      exact key
    · rw [hlen]
      have := hw ((((List.range len).map D).length + ((List.range (m - len)).map fun j => D (len + j)).length) * P.bytesOf e) (by simp only [DataW.weights, ht]; exact List.mem_cons_self)
      rw [hB] at this
      simp only [List.length_map, List.length_range] at this
      have h2 : len * B ≤ (len + (m - len)) * B := Nat.mul_le_mul_right _ (by omega)
      unfold reachBytes at this
      omega
    · intro y hy
      obtain ⟨i, hi, rfl⟩ := List.mem_map.1 hy
      exact (hf i (List.mem_range.1 hi)).2
theorem TellsF.one {P : Program} {f : Field} {off n : Nat} {α : Type} {d : α → List AVal} {ok : α → Prop} (h : Tells P f.type n d ok) (ho : f.offset = off) (hc : P.cellsOf f.type = n) : TellsF P [f] off n d ok := by
  intro H enc W base spare held fuel cs xs hx hl hcs hw
  match xs, hl with
  | [x], _ =>
    have h0 := hx 0 f rfl
    rw [ho, hc, List.take_of_length_le (by rw [List.length_drop]; omega)] at h0
    obtain ⟨y, hy, hok⟩ := h H enc W base spare held fuel _ x h0 (hw 0 f x rfl rfl)
    exact ⟨y, hy.1, hok⟩
theorem TellsF.cons {P : Program} {f : Field} {fs : List Field} {off n n' : Nat} {α β : Type} {d : α → List AVal} {d' : β → List AVal} {ok : α → Prop} {ok' : β → Prop} (h : Tells P f.type n d ok) (ho : f.offset = off) (hc : P.cellsOf f.type = n)
    (r : TellsF P fs (off + n) n' d' ok') : TellsF P (f :: fs) off (n + n') (fun x : α × β => d x.1 ++ d' x.2) (fun x => ok x.1 ∧ ok' x.2) := by
  intro H enc W base spare held fuel cs xs hx hl hcs hw
  match xs, hl with
  | x :: xs, hl =>
    have h0 := hx 0 f rfl
    rw [ho, hc] at h0
    obtain ⟨y, hy, hok⟩ := h H enc W base spare held fuel _ x h0 (hw 0 f x rfl rfl)
    obtain ⟨y', hy', hok'⟩ := r H enc W base spare held fuel cs xs (fun i g hg => hx (i + 1) g hg) (by simpa using hl) (by omega) (fun i g z hg hz => hw (i + 1) g z hg hz)
    refine ⟨(y, y'), ?_, hok, hok'⟩
    have := hy.1.append hy'
    rw [← List.drop_drop, List.take_append_drop] at this
    exact this
theorem weights_each {H : Type} {P : Program} {fs : List Field} : ∀ {xs : List (DataW H × List MemPlace)} {i : Nat} {f : Field} {x : DataW H × List MemPlace}, fs[i]? = some f → xs[i]? = some x → ∀ b ∈ x.1.weights P f.type, b ∈ DataW.weightsEach P (fs.map (·.type)) (xs.map (·.1)) := by
  intro xs i f x hf hx b hb
  exact DataW.weights_mem_each (j := i) (t := f.type) (d := x.1) (by simp [hf]) (by simp [hx]) b hb
theorem Tells.struct {P : Program} {t : TypeId} {fs : Array Field} (ht : P.underlying t = some (.struct fs)) {α : Type} {n : Nat} {d : α → List AVal} {ok : α → Prop} (h : TellsF P fs.toList 0 n d ok) (hc : P.cellsOf t = n) : Tells P t n d ok := by
  intro H enc W base spare held fuel cs x hx hw
  obtain ⟨xs, m, _, rfl, hl, hlen, hf⟩ := DataW.trod_struct ht hx
  obtain ⟨y, hy, hok⟩ := h H enc W base spare held m cs xs (fun i f hi => hf i f (by rw [← Array.getElem?_toList]; exact hi)) (by simpa using hlen) (by omega) (fun i f x hi hx b hb => hw b (by
    simp only [DataW.weights, ht]
    exact weights_each hi hx b hb))
  exact ⟨y, ⟨by simpa using hy, by omega⟩, hok⟩
/-- An array's elements in line, as fields. -/
theorem Tells.array {P : Program} {t e : TypeId} {k : Nat} (ht : P.underlying t = some (.array k e)) {α : Type} {n : Nat} {d : α → List AVal} {ok : α → Prop} (h : TellsF P ((List.range k).map fun i => { name := "", type := e, offset := i * P.cellsOf e, embedded := false, tag := "", pkgPath := "", byteOffset := 0 }) 0 n d ok)
    (hc : P.cellsOf t = n) : Tells P t n d ok := by
  intro H enc W base spare held fuel cs x hx hw
  obtain ⟨xs, m, _, rfl, hl, hlen, hf⟩ := DataW.trod_array ht hx
  obtain ⟨y, hy, hok⟩ := h H enc W base spare held m cs xs (fun i f hi => by
      have hin : i < k := by
        rcases Nat.lt_or_ge i k with h | h
        · exact h
        · simp [h] at hi
      simp [hin] at hi
      subst hi
      exact hf i hin) (by simpa using hlen) (by omega) (fun i f x hi hx b hb => hw b (by
    have hin : i < k := by
      rcases Nat.lt_or_ge i k with h | h
      · exact h
      · simp [h] at hi
    simp [hin] at hi
    subst hi
    simp only [DataW.weights, ht]
    exact weights_all (List.mem_map.2 ⟨x, List.mem_iff_getElem?.2 ⟨i, hx⟩, rfl⟩) hb))
  exact ⟨y, ⟨by simpa using hy, by omega⟩, hok⟩
/-- The same data, told by another name. -/
theorem Tells.as {P : Program} {t : TypeId} {α β : Type} {n : Nat} {d : α → List AVal} {ok : α → Prop} (h : Tells P t n d ok) (g : α → β) (d' : β → List AVal) (hd : ∀ a, d' (g a) = d a) (ok' : β → Prop) (hok : ∀ a, ok a → ok' (g a)) : Tells P t n d' ok' := by
  intro H enc W base spare held fuel cs x hx hw
  obtain ⟨y, hy, hk⟩ := h H enc W base spare held fuel cs x hx hw
  exact ⟨g y, by rw [hd]; exact hy, hok y hk⟩
theorem okWide_agg {P : Program} {w : World} {r : Reach} {base : Nat} {t : TypeId} {v : Value} (ht : (∃ fs, P.underlying t = some (.struct fs)) ∨ ∃ n e, P.underlying t = some (.array n e)) (h : Value.okWide P w r base t v) : ∃ cs, v = .agg cs ∧ cs.size = P.cellsOf t := by
  rcases ht with ⟨fs, ht⟩ | ⟨n, e, ht⟩
  all_goals
    simp only [Value.okWide, ht] at h
    obtain ⟨cs, h1, h2, _⟩ := h
    exact ⟨cs, h1, h2⟩
section
variable {P : Program} {t : TypeId} {α : Type} {n : Nat} {d : α → List AVal} {ok : α → Prop} {H : Type} {enc : TypeId × Value → H} {W : World} {base : Nat} {spare : Nat → Bool} {held : Bool} {x : DataW H} {ps : List MemPlace} {ts : List TypeId} {ds : List (DataW H)}
/-- A struct (an array) that came in by value. -/
theorem Tells.agg (h : Tells P t n d ok) {cs : Array Value} (hsz : (DataW.weightsEach P ts ds).all (· ≤ reachBytes) = true) (j : Nat) (ht : ts[j]? = some t) (hd : ds[j]? = some x)
    (hx : DataW.Trod enc P W base spare held t (.agg cs) x ps) : ∃ y : α, Den W noC nm0 (.agg (d y)) (.agg cs) ∧ ok y := by
  obtain ⟨fuel, hf⟩ := hx
  have hf' : DataW.trod enc P W base spare held fuel t cs.toList = some (x, ps) := by simpa [Value.cells] using hf
  obtain ⟨y, ⟨hy, _⟩, hok⟩ := h H enc W base spare held fuel cs.toList (x, ps) hf' (fun b hb => by simpa using List.all_eq_true.1 hsz b (DataW.weights_mem_each ht hd b hb))
  exact ⟨y, .agg cs.toList hy.1 hy.2, hok⟩
/-- A value of one cell that came in. -/
theorem Tells.cell {f : α → AVal} (h : Tells P t 1 (fun y => [f y]) ok) {v : Value} (hv : v.cells = #[v]) (hsz : (DataW.weightsEach P ts ds).all (· ≤ reachBytes) = true) (j : Nat) (ht : ts[j]? = some t) (hd : ds[j]? = some x)
    (hx : DataW.Trod enc P W base spare held t v x ps) : ∃ y : α, Den W noC nm0 (f y) v ∧ ok y := by
  obtain ⟨fuel, hf⟩ := hx
  have hf' : DataW.trod enc P W base spare held fuel t [v] = some (x, ps) := by simpa [hv] using hf
  obtain ⟨y, ⟨hy, _⟩, hok⟩ := h H enc W base spare held fuel [v] (x, ps) hf' (fun b hb => by simpa using List.all_eq_true.1 hsz b (DataW.weights_mem_each ht hd b hb))
  exact ⟨y, hy.2 0 _ v rfl rfl, hok⟩
end
/-- A proved law at arguments that can only be read. -/
theorem law_ok {P : Program} {f : Nat} {sp : Spec} (hv : Valid P f sp) {W : World} {args : List AVal} {vals : List Value} (hd : DenL W noC nm0 args vals) (h : ∀ K : AVal → Hp → Nat → Prop, K (.v (.bool true)) [] 0 → sp.f args [] K) :
    Calls P f ⟨vals⟩ W fun e w' => e = .returned (.bool true) ∧ Below W.heap.size W w' := by
  refine Calls.mono (hv W noC nm0 args vals [] (fun r _ _ => r = .v (.bool true)) hd ?_ (h _ rfl)) ?_
  · exact ⟨fun m o h => (by cases h), fun m o m' o' b x b' x' h => (by cases h), fun m o b x h => (by cases h), fun m _ => rfl, rfl, rfl, rfl, Nat.le_refl _, fun b _ _ => rfl⟩
  · rintro e w' ⟨r, v, L', nx', ρ', rfl, hden, hp, _, hr⟩
    subst hr
    rw [den_v hden]
    exact ⟨rfl, hp.os, hp.tape, hp.output, hp.size, fun k hk => hp.old k hk (fun h => h)⟩
end Go.Proofs.YtiakjdcognckpaaE

/-! The law FnExactSettle, as its row states it: whatever the input the law returns true; no condition. -/
namespace Go.Proofs.Ytiakjdcognckpaa.fnExactSettle
open Go.ChangeShapes Go.WideShapes Go.ChangeAt Go.RowKit Go.Proofs.YtiakjdcognckpaaE
set_option linter.unusedVariables false
theorem own : ownKnob Try.prog.godebug = none := by kernel_rfl
theorem laidOut : laidOutB Try.prog = true := by kernel_rfl
theorem T3 : Tells Try.prog 3 1 (fun n : Int => [.v (.int .i64 n)]) (fun _ => True) := (Tells.int Try.underlying3).as id _ (fun _ => rfl) _ (fun _ _ => trivial)
theorem T106 : Tells Try.prog 106 (sz .sig) (enc .sig) (fun _ => True) :=
  (Tells.struct (n := 1 + (1 + 1)) Try.underlying106 (TellsF.cons (n := 1) (n' := 1 + 1) T3 (by kernel_rfl) (by kernel_rfl) (TellsF.cons (n := 1) (n' := 1) T3 (by kernel_rfl) (by kernel_rfl) (TellsF.one T3 (by kernel_rfl) (by kernel_rfl)))) (by kernel_rfl)).as (fun x : Int × Int × Int => (⟨x.1, x.2.1, x.2.2⟩ : Sig)) (enc .sig) (fun _ => rfl) _ (fun _ _ => trivial)
theorem T32 : Tells Try.prog 32 1 (fun xs : List Sig => [.rs .sig xs]) (fun xs => xs.length ≤ 17592186044416) := (Tells.slice (τ := .sig) Try.underlying32 T106 (by kernel_rfl) (B := 24) (by kernel_rfl)).as id _ (fun _ => rfl) _ (fun xs h => by have := h.1; simp only [id]; omega)
theorem T30 : Tells Try.prog 30 (1 + 1) (fun x : Int × Int => [.v (.int .i64 x.1)] ++ [.v (.int .i64 x.2)]) (fun _ => True) :=
  (Tells.struct (n := 1 + 1) Try.underlying30 (TellsF.cons (n := 1) (n' := 1) T3 (by kernel_rfl) (by kernel_rfl) (TellsF.one T3 (by kernel_rfl) (by kernel_rfl))) (by kernel_rfl)).as id _ (fun _ => rfl) _ (fun _ _ => trivial)
theorem T31 : Tells Try.prog 31 (2 + 2) (fun x : (Int × Int) × (Int × Int) => ([.v (.int .i64 x.1.1)] ++ [.v (.int .i64 x.1.2)]) ++ ([.v (.int .i64 x.2.1)] ++ [.v (.int .i64 x.2.2)])) (fun _ => True) :=
  (Tells.array (n := 2 + 2) Try.underlying31 (TellsF.cons (n := 2) (n' := 2) T30 (by kernel_rfl) (by kernel_rfl) (TellsF.one T30 (by kernel_rfl) (by kernel_rfl))) (by kernel_rfl)).as id _ (fun _ => rfl) _ (fun _ _ => trivial)
theorem T34 : Tells Try.prog 34 5 (fun d : Du => [.v (.int .i64 d.a), .v (.int .i64 d.x), .v (.int .i64 d.b), .v (.int .i64 d.y), .rs .sig d.q]) (fun d => d.q.length ≤ 17592186044416) :=
  (Tells.struct (n := 4 + 1) Try.underlying34 (TellsF.cons (n := 4) (n' := 1) T31 (by kernel_rfl) (by kernel_rfl) (TellsF.one T32 (by kernel_rfl) (by kernel_rfl))) (by kernel_rfl)).as (fun a => (⟨a.1.1.1, a.1.1.2, a.1.2.1, a.1.2.2, a.2⟩ : Du)) _ (fun _ => rfl) _ (fun a h => h.2)
set_option maxRecDepth 100000 in
set_option maxHeartbeats 1000000 in
theorem lifted (os : Os) (started : os.Started) (H : Type) (enc : TypeId × Value → H) :
    ReturnsInHanded {} Try.checked os 4 .any (Rows.fnExactSettleSpec.pre6 enc Try.prog Try.f4 Rows.fnExactSettleRow.domain false) (Rows.fnExactSettleSpec.post enc Try.prog Try.f4 false true false false) := by
  refine returnsInHanded_of_change_sized (C := Try.checked) own started (by kernel_rfl) Try.func4
    (ChangeSpec.witness6 (enc := enc) (C := Try.checked) false ⟨#[], #[.agg #[.int .i64 0, .int .i64 0, .int .i64 0, .int .i64 0, .slice none 0 0], .int .i64 0], []⟩ 8 (by kernel_rfl) (by kernel_rfl) (by kernel_rfl) (by kernel_rfl)) ?_
  intro W base args ds gs before hval0 hW hcnd hsz0 _
  have hsz : (DataW.weightsEach Try.prog (Try.f4.params.toList ++ Rows.fnExactSettleSpec.plain.varTypes Try.prog) (ds ++ gs)).all (· ≤ reachBytes) = true := hsz0
  have hval : ∀ (j : Nat) t v, Try.f4.params[j]? = some t → args[j]? = some v → Value.okWide Try.prog W .any base t v := hval0
  have hW' := hW
  obtain ⟨p, q, hA0, hV, rfl, hfz, hnd⟩ := hW
  have hA : DataW.TrodAll enc Try.prog W 0 (fun _ => true) true Try.f4.params.toList args.toList ds p := hA0
  rw [Try.params4] at hA hval hsz
  obtain ⟨v0, vs0, d0, ds0, p0, q0, hargs, rfl, rfl, h0, r0⟩ := trodAll_cons hA
  obtain ⟨v1, vs1, d1, ds1, p1, q1, rfl, rfl, rfl, h1, r1⟩ := trodAll_cons r0
  obtain ⟨rfl, rfl, rfl⟩ := trodAll_nil r1
  obtain rfl : args = #[v0, v1] := by cases args; simp_all
  obtain ⟨rfl, rfl⟩ := trodVars_none hV
  obtain ⟨cs0, rfl, _⟩ := okWide_agg (.inl ⟨_, Try.underlying34⟩) (hval 0 34 v0 rfl rfl)
  have k0 := h0
  have lt0 : ∀ x ∈ p0, x.block < W.heap.size := by obtain ⟨m, hm⟩ := k0; exact DataW.trod_lt m _ _ _ hm
  obtain ⟨y0, hK0, o0⟩ := Tells.agg T34 hsz 0 rfl rfl h0
  obtain ⟨a1, rfl, rfl, rfl, w1⟩ := open_int Try.underlying3 (hval 1 3 v1 rfl rfl) h1
  clear hA0 hval0 hsz0 hsz
  refine (law_ok valid4 (DenL.cons hK0 (DenL.cons (.v (.int .i64 a1)) .nil)) (fun K hk => ⟨o0, hk⟩)).mono fun e W' ⟨he, bel⟩ => ?_
  subst he
  exact ⟨_, rfl, _, _, _, [], _, [], hW', trodAll_mk1 (shut_bool Try.underlying4 _), (trodAll_cons_mk (Below.trod laidOut (by kernel_rfl) (of_decide_eq_true (by kernel_rfl)) k0 bel lt0) (trodAll_cons_mk (shut_int Try.underlying3 w1) trodAll_mk0)), rfl, bel.frame _, fun h => by cases h⟩
theorem over : Rows.fnExactSettleRow.holds Try.pinned (OpenSpec.ofChange Rows.fnExactSettleSpec) :=
  OpenClaim.holds_of_wide 4 Try.f4 rfl rfl rfl rfl rfl rfl rfl ⟨rfl, rfl, rfl, rfl, rfl⟩ rfl rfl rfl rfl rfl (by kernel_rfl) Try.func4 (by kernel_rfl)
    (of_decide_eq_true (by kernel_rfl)) (by unfold Func.isWrapper; first | (rw [if_pos (by decide +kernel)]; kernel_rfl) | (rw [if_neg (by decide +kernel)]; exact ⟨rfl, rfl⟩))
    (fun os started H enc _ => lifted os started H enc)
theorem proved : Rows.FnExactSettleSaid := over
#print axioms proved
end Go.Proofs.Ytiakjdcognckpaa.fnExactSettle
namespace Go.Proofs.Ytiakjdcognckpaa
/-- The row, under a short name, for the claim. -/
theorem fnExactSettle_holds : Rows.FnExactSettleSaid := fnExactSettle.proved
end Go.Proofs.Ytiakjdcognckpaa
