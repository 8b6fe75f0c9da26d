/- A part of a proof that a law of the given program holds for every input: no condition. -/
import Derived.Test.YtiakjdcognckpaaProg
import Derived.KernelRfl
import Derived.Deep.Slices
import Derived.OpenShut
import Derived.SizedLaws
import Derived.WideLaws
import Derived.Test.YtiakjdcognckpaaRows
import Derived.ProofKit
import Derived.ShutString
import Derived.ChangeOld
import Derived.Below
import Derived.Test.YtiakjdcognckpaaKFnClearedBoth2

set_option linter.unusedSimpArgs false
set_option linter.unusedVariables false
/-! The code of a function, in the engine's words. -/
namespace Go.Proofs.YtiakjdcognckpaaE
open Go Go.RowKit
@[reducible] def ic17 : IC := (.seq (.ops [⟨some 2, .box (.tmp 0), none⟩, ⟨some 4, .new [(.int .i64 0), (.int .i64 0), (.int .i64 0), (.int .i64 0), (.slice none 0 0)], none⟩]) (.seq (.seq (.ops [⟨some 7, .load 5 true (.tmp 2), none⟩, ⟨some 8, .call 48 [(.tmp 7)], none⟩, ⟨some 9, .una .not (.tmp 8), none⟩, ⟨some 10, .mov (.tmp 9), none⟩, ⟨some 11, .mov (.tmp 1), some (10, false)⟩, ⟨some 12, .call 40 [(.tmp 11), (.const (.int .i64 0)), (.const (.int .i64 20))], some (10, false)⟩, ⟨some 13, .una .not (.tmp 12), some (10, false)⟩, ⟨some 14, .pick (.tmp 10) (.const (.bool true)) (.tmp 13), none⟩]) (.cond (.tmp 14) (.seq (.ops [⟨some 15, .bld [(.int .i64 0), (.int .i64 0), (.int .i64 0), (.int .i64 0), (.slice none 0 0)] [], none⟩, ⟨none, .store 5 (.tmp 4) (.tmp 15), none⟩]) .ret) .skip)) (.seq (.ops [⟨some 16, .load 5 true (.tmp 2), none⟩, ⟨some 17, .call 49 [(.tmp 16)], none⟩, ⟨none, .store 5 (.tmp 2) (.tmp 17), none⟩]) (.seq (.ops [⟨some 18, .mfn 50 [(.tmp 2)], none⟩, ⟨some 5, .mov (.tmp 18), none⟩]) (.seq (.seq (.ops [⟨some 19, .mov (.tmp 1), none⟩, ⟨some 20, .mov (.const (.int .i64 0)), none⟩]) (.block 0 (.loop (.seq (.ops [⟨some 21, .bin .lss (.tmp 20) (.tmp 19), none⟩]) (.seq (.cond (.tmp 21) .skip (.exit 0)) (.seq (.block 1 (.seq (.ops [⟨some 22, .mov (.tmp 5), none⟩, ⟨some 23, .callv (.tmp 22) [], none⟩]) (.seq (.ops [⟨some 24, .mov (.const (.int .i64 0)), none⟩]) (.block 2 (.loop (.seq (.ops [⟨some 25, .bin .lss (.tmp 24) (.const (.int .i64 2)), none⟩]) (.seq (.cond (.tmp 25) .skip (.exit 2)) (.seq (.block 3 (.seq (.ops [⟨some 26, .mov (.tmp 24), none⟩, ⟨some 6, .mov (.tmp 26), none⟩]) (.ops [⟨some 28, .load 5 true (.tmp 2), none⟩, ⟨some 29, .mov (.tmp 6), none⟩, ⟨some 30, .bld [(.int .i64 0), (.int .i64 0)] [(0, 1, (.const (.int .i64 4))), (1, 1, (.tmp 29))], none⟩, ⟨some 31, .call 23 [(.tmp 28), (.tmp 30)], none⟩, ⟨some 27, .mov (.tmp 31), none⟩, ⟨some 32, .ext (.tmp 27) 0, none⟩, ⟨some 33, .ext (.tmp 27) 1, none⟩, ⟨none, .store 5 (.tmp 2) (.tmp 32), none⟩]))) (.ops [⟨some 34, .bin .add (.tmp 24) (.const (.int .i64 1)), none⟩, ⟨some 24, .mov (.tmp 34), none⟩]))))))))) (.ops [⟨some 35, .bin .add (.tmp 20) (.const (.int .i64 1)), none⟩, ⟨some 20, .mov (.tmp 35), none⟩]))))))) (.seq (.ops [⟨some 36, .mov (.tmp 5), none⟩, ⟨some 37, .callv (.tmp 36) [], none⟩]) (.seq (.ops [⟨some 38, .load 5 true (.tmp 2), none⟩, ⟨none, .store 5 (.tmp 4) (.tmp 38), none⟩]) .ret)))))))
@[reducible] def rv17 : List RV := [.cell 4 5 true]
theorem low17 : lowC Try.prog tau Try.f17.ntmps (Try.f17.body.getD .skip) = some (erase ic17) := by kernel_rfl
theorem res17 : lowR Try.prog Try.f17.results.toList = some rv17 := by kernel_rfl
theorem bod17 : Try.f17.body = some (Try.f17.body.getD .skip) := by kernel_rfl
theorem cal17 : callable Try.prog 17 = true := by kernel_rfl

end Go.Proofs.YtiakjdcognckpaaE

/-! Settle, of the reference and of the program. -/
namespace Go.Proofs.YtiakjdcognckpaaE
open Go Go.RowKit
set_option linter.unusedSimpArgs false
set_option linter.unusedVariables false
set_option maxRecDepth 20000
set_option maxHeartbeats 4000000

def spSettle : Spec := ⟨fun _ _ => [], fun args objs K => match args, objs with
  | [.agg [.v (.int .i64 a), .v (.int .i64 x), .v (.int .i64 b), .v (.int .i64 y), .rs .sig q], .v (.int .i64 n)], [] => q.length ≤ 1099511627776 ∧ K (duA (settleD ⟨a, x, b, y, q⟩ n)) (duL (settleD ⟨a, x, b, y, q⟩ n)) 1
  | _, _ => False, false⟩
theorem spSettle_t {L : Hp} {a : List AVal} : Spec.take spSettle L a = [] := id rfl
theorem spSettle_k : Spec.keep spSettle = false := id rfl
theorem spSettle_f {a} {x} {b} {y} {q} {n} {K : AVal → Hp → Nat → Prop} : Spec.f spSettle ([.agg [.v (.int .i64 a), .v (.int .i64 x), .v (.int .i64 b), .v (.int .i64 y), .rs .sig q], .v (.int .i64 n)]) ([]) K = (q.length ≤ 1099511627776 ∧ K (duA (settleD ⟨a, x, b, y, q⟩ n)) (duL (settleD ⟨a, x, b, y, q⟩ n)) 1) := id rfl
theorem valid15 : Valid Try.prog 15 spSettle := by
  refine validI (Γ := lk [(32, spDuOk), (38, spIn), (43, spToDu), (44, spCarr), (45, spTimer)]) Try.func15 bod15 low15 res15 (good_of ⟨⟨cal32, valid32⟩, ⟨cal38, valid38⟩, ⟨cal43, valid43⟩, ⟨cal44, valid44⟩, ⟨cal45, valid45⟩, trivial⟩) ?_
  intro E args objs K h hE hG hP
  simp only [spSettle] at h
  split at h
  · refine ⟨by simp [Try.ntmps15], ?_⟩
    rename_i a x b y q n
    obtain ⟨b1, h⟩ := h
    cases hd : duOk ⟨a, x, b, y, q⟩
    · have e : settleD ⟨a, x, b, y, q⟩ n = ⟨0, 0, 0, 0, []⟩ := if_neg (fun e => by rw [hd] at e; cases e.1)
      rw [e] at h
      simp (config := { maxSteps := 2000000 }) only [go_sem, hG, hP, Nat.reduceEqDiff, ↓reduceIte, reduceCtorEq, Nat.reduceAdd, Nat.reduceSub, Nat.reduceMul, Nat.reduceLT, Nat.reduceLeDiff, Int.reduceAdd, Int.reduceSub, Int.reduceMul, Int.reduceLT, Int.reduceLE, Int.reduceEq, Int.reduceNeg, Int.reduceNe, Int.reduceGE, Int.reduceGT, Nat.reduceBEq, Int.reduceToNat,  spToDu_f, spToDu_t, spToDu_k, spDuOk_f, spDuOk_t, spDuOk_k, spIn_f, spIn_t, spIn_k, spCarr_f, spCarr_t, spCarr_k, spTimer_f, spTimer_t, spTimer_k, takeA5_eq, ↓stayK_eq, hd]
      repeat' (first | (refine And.intro ?_ ?_) | (with_reducible intro _))
      all_goals first | omega | (refine ⟨_, _, _, ?_, h⟩; simp only [duA_eq, duL_eq]; simp (config := { maxSteps := 2000000 }) only [go_sem, hG, hP, Nat.reduceEqDiff, ↓reduceIte, reduceCtorEq, Nat.reduceAdd, Nat.reduceSub, Nat.reduceMul, Nat.reduceLT, Nat.reduceLeDiff, Int.reduceAdd, Int.reduceSub, Int.reduceMul, Int.reduceLT, Int.reduceLE, Int.reduceEq, Int.reduceNeg, Int.reduceNe, Int.reduceGE, Int.reduceGT, Nat.reduceBEq, Int.reduceToNat]; all_goals (first | (simp; done) | omega))
    · by_cases hn : 0 ≤ n ∧ n ≤ 20
      rotate_left
      · have hne := eq_false hn
        have e : settleD ⟨a, x, b, y, q⟩ n = ⟨0, 0, 0, 0, []⟩ := if_neg (fun e => hn e.2)
        rw [e] at h
        simp (config := { maxSteps := 2000000 }) only [go_sem, hG, hP, Nat.reduceEqDiff, ↓reduceIte, reduceCtorEq, Nat.reduceAdd, Nat.reduceSub, Nat.reduceMul, Nat.reduceLT, Nat.reduceLeDiff, Int.reduceAdd, Int.reduceSub, Int.reduceMul, Int.reduceLT, Int.reduceLE, Int.reduceEq, Int.reduceNeg, Int.reduceNe, Int.reduceGE, Int.reduceGT, Nat.reduceBEq, Int.reduceToNat,  spToDu_f, spToDu_t, spToDu_k, spDuOk_f, spDuOk_t, spDuOk_k, spIn_f, spIn_t, spIn_k, spCarr_f, spCarr_t, spCarr_k, spTimer_f, spTimer_t, spTimer_k, takeA5_eq, ↓stayK_eq, hd, hne]
        repeat' (first | (refine And.intro ?_ ?_) | (with_reducible intro _))
        all_goals first | omega | (refine ⟨_, _, _, ?_, h⟩; simp only [duA_eq, duL_eq]; simp (config := { maxSteps := 2000000 }) only [go_sem, hG, hP, Nat.reduceEqDiff, ↓reduceIte, reduceCtorEq, Nat.reduceAdd, Nat.reduceSub, Nat.reduceMul, Nat.reduceLT, Nat.reduceLeDiff, Int.reduceAdd, Int.reduceSub, Int.reduceMul, Int.reduceLT, Int.reduceLE, Int.reduceEq, Int.reduceNeg, Int.reduceNe, Int.reduceGE, Int.reduceGT, Nat.reduceBEq, Int.reduceToNat]; all_goals (first | (simp; done) | omega))
      · have hne := eq_true hn
        obtain ⟨m, rfl⟩ : ∃ m : Nat, n = m := ⟨n.toNat, by omega⟩
        have e : settleD ⟨a, x, b, y, q⟩ m = carD (roundsD m ⟨a, x, b, y, q⟩) := by unfold settleD; rw [if_pos ⟨hd, hn⟩, Int.toNat_natCast]
        rw [e] at h
        simp (config := { maxSteps := 2000000 }) only [go_sem, hG, hP, Nat.reduceEqDiff, ↓reduceIte, reduceCtorEq, Nat.reduceAdd, Nat.reduceSub, Nat.reduceMul, Nat.reduceLT, Nat.reduceLeDiff, Int.reduceAdd, Int.reduceSub, Int.reduceMul, Int.reduceLT, Int.reduceLE, Int.reduceEq, Int.reduceNeg, Int.reduceNe, Int.reduceGE, Int.reduceGT, Nat.reduceBEq, Int.reduceToNat,  spToDu_f, spToDu_t, spToDu_k, spDuOk_f, spDuOk_t, spDuOk_k, spIn_f, spIn_t, spIn_k, spCarr_f, spCarr_t, spCarr_k, spTimer_f, spTimer_t, spTimer_k, takeA5_eq, ↓stayK_eq, hd, hne]
        repeat (refine And.intro (by first | omega | (simp; done) | (simp; omega) | (unfold appRoom; omega)) ?_)
        refine loopI hE (fun p : Nat × Du => ⟨[(1, .v (.int .i64 m)), (2, .ptr 0 0), (4, .ptr 1 0), (5, .v (.int .i64 p.1))], [(0, .box [.v (.int .i64 p.2.a), .v (.int .i64 p.2.x), .v (.int .i64 p.2.b), .v (.int .i64 p.2.y), .sub 2 3 0 p.2.q.length]), (1, .box [.v (.int .i64 0), .v (.int .i64 0), .v (.int .i64 0), .v (.int .i64 0), .v (.slice none 0 0)]), (2, .row .sig p.2.q)], 3, Try.f15.ntmps⟩) (fun p => p.1 ≤ m ∧ p.2 = roundsD p.1 ⟨a, x, b, y, q⟩) (fun p => m - p.1) ⟨(0, ⟨a, x, b, y, q⟩), ⟨Nat.zero_le _, rfl⟩, SubS.weak ?_⟩ ?_
        · simp (config := { maxSteps := 2000000 }) only [go_sem, hG, hP, Nat.reduceEqDiff, ↓reduceIte, reduceCtorEq, Nat.reduceAdd, Nat.reduceSub, Nat.reduceMul, Nat.reduceLT, Nat.reduceLeDiff, Int.reduceAdd, Int.reduceSub, Int.reduceMul, Int.reduceLT, Int.reduceLE, Int.reduceEq, Int.reduceNeg, Int.reduceNe, Int.reduceGE, Int.reduceGT, Nat.reduceBEq, Int.reduceToNat]
          all_goals simp
        · rintro ⟨j, ⟨a', x', b', y', q'⟩⟩ ⟨hj, hr⟩
          dsimp only at hj hr
          have hd' : duOk ⟨a', x', b', y', q'⟩ = true := by rw [hr]; exact roundsD_ok hd _
          have hcd := carD_ok hd'
          rcases hc : carD ⟨a', x', b', y', q'⟩ with ⟨c1, c2, c3, c4, cq⟩
          rw [hc] at hcd
          obtain ⟨hcd, rfl⟩ : duOk ⟨c1, c2, c3, c4, cq⟩ = true ∧ cq = [] := hcd
          have hl' := (duOk_head hd').2
          dsimp only at hl'
          by_cases hq : q' = []
          · subst hq
            have hcs : carD ⟨a', x', b', y', []⟩ = ⟨a', x', b', y', []⟩ := carF_done rfl _
            rw [hcs] at hc
            cases hc
            by_cases hlt : (j : Int) < (m : Int)
            · have hlte := eq_true hlt
              cases hg0 : timerG ⟨a', x', b', y', []⟩ 0
              · have ht0 := timer_no hg0
                cases hg1 : timerG ⟨a', x', b', y', []⟩ 1
                · have ht1 := timer_no hg1
                  simp (config := { maxSteps := 2000000 }) only [go_sem, hG, hP, Nat.reduceEqDiff, ↓reduceIte, reduceCtorEq, Nat.reduceAdd, Nat.reduceSub, Nat.reduceMul, Nat.reduceLT, Nat.reduceLeDiff, Int.reduceAdd, Int.reduceSub, Int.reduceMul, Int.reduceLT, Int.reduceLE, Int.reduceEq, Int.reduceNeg, Int.reduceNe, Int.reduceGE, Int.reduceGT, Nat.reduceBEq, Int.reduceToNat,  spToDu_f, spToDu_t, spToDu_k, spDuOk_f, spDuOk_t, spDuOk_k, spIn_f, spIn_t, spIn_k, spCarr_f, spCarr_t, spCarr_k, spTimer_f, spTimer_t, spTimer_k, takeA5_eq, ↓stayK_eq, hd', hcs, hlte, hg0, ht0, hg1, ht1]
                  (try simp (disch := omega) only [wrap_id])
                  repeat' (first | (refine And.intro ?_ ?_) | (with_reducible intro _))
                  all_goals try omega
                  refine ⟨(j + 1, ⟨a', x', b', y', []⟩), ⟨⟨by dsimp only; omega, by show _ = roundD _; rw [← hr]; unfold roundD; rw [hcs, ht0, ht1]⟩, by dsimp only; omega⟩, SubS.weak ?_⟩
                  simp (config := { maxSteps := 2000000 }) only [go_sem, hG, hP, Nat.reduceEqDiff, ↓reduceIte, reduceCtorEq, Nat.reduceAdd, Nat.reduceSub, Nat.reduceMul, Nat.reduceLT, Nat.reduceLeDiff, Int.reduceAdd, Int.reduceSub, Int.reduceMul, Int.reduceLT, Int.reduceLE, Int.reduceEq, Int.reduceNeg, Int.reduceNe, Int.reduceGE, Int.reduceGT, Nat.reduceBEq, Int.reduceToNat]
                  all_goals simp
                · rcases ht1 : timer ⟨a', x', b', y', []⟩ 1 with ⟨f1, f2, f3, f4, fq⟩
                  simp (config := { maxSteps := 2000000 }) only [go_sem, hG, hP, Nat.reduceEqDiff, ↓reduceIte, reduceCtorEq, Nat.reduceAdd, Nat.reduceSub, Nat.reduceMul, Nat.reduceLT, Nat.reduceLeDiff, Int.reduceAdd, Int.reduceSub, Int.reduceMul, Int.reduceLT, Int.reduceLE, Int.reduceEq, Int.reduceNeg, Int.reduceNe, Int.reduceGE, Int.reduceGT, Nat.reduceBEq, Int.reduceToNat,  spToDu_f, spToDu_t, spToDu_k, spDuOk_f, spDuOk_t, spDuOk_k, spIn_f, spIn_t, spIn_k, spCarr_f, spCarr_t, spCarr_k, spTimer_f, spTimer_t, spTimer_k, takeA5_eq, ↓stayK_eq, hd', hcs, hlte, hg0, ht0, hg1, ht1]
                  (try simp (disch := omega) only [wrap_id])
                  repeat' (first | (refine And.intro ?_ ?_) | (with_reducible intro _))
                  all_goals try omega
                  refine ⟨(j + 1, ⟨f1, f2, f3, f4, fq⟩), ⟨⟨by dsimp only; omega, by show _ = roundD _; rw [← hr]; unfold roundD; rw [hcs, ht0, ht1]⟩, by dsimp only; omega⟩, SubS.weak ?_⟩
                  simp (config := { maxSteps := 2000000 }) only [go_sem, hG, hP, Nat.reduceEqDiff, ↓reduceIte, reduceCtorEq, Nat.reduceAdd, Nat.reduceSub, Nat.reduceMul, Nat.reduceLT, Nat.reduceLeDiff, Int.reduceAdd, Int.reduceSub, Int.reduceMul, Int.reduceLT, Int.reduceLE, Int.reduceEq, Int.reduceNeg, Int.reduceNe, Int.reduceGE, Int.reduceGT, Nat.reduceBEq, Int.reduceToNat]
                  all_goals simp
              · rcases ht0 : timer ⟨a', x', b', y', []⟩ 0 with ⟨e1, e2, e3, e4, eq⟩
                have hel := (timer_ok (p := 0) hcd (by show 0 < 40; decide)).2
                rw [ht0] at hel
                simp only [List.length_nil] at hel
                cases hg1 : timerG ⟨e1, e2, e3, e4, eq⟩ 1
                · have ht1 := timer_no hg1
                  simp (config := { maxSteps := 2000000 }) only [go_sem, hG, hP, Nat.reduceEqDiff, ↓reduceIte, reduceCtorEq, Nat.reduceAdd, Nat.reduceSub, Nat.reduceMul, Nat.reduceLT, Nat.reduceLeDiff, Int.reduceAdd, Int.reduceSub, Int.reduceMul, Int.reduceLT, Int.reduceLE, Int.reduceEq, Int.reduceNeg, Int.reduceNe, Int.reduceGE, Int.reduceGT, Nat.reduceBEq, Int.reduceToNat,  spToDu_f, spToDu_t, spToDu_k, spDuOk_f, spDuOk_t, spDuOk_k, spIn_f, spIn_t, spIn_k, spCarr_f, spCarr_t, spCarr_k, spTimer_f, spTimer_t, spTimer_k, takeA5_eq, ↓stayK_eq, hd', hcs, hlte, hg0, ht0, hg1, ht1]
                  (try simp (disch := omega) only [wrap_id])
                  repeat' (first | (refine And.intro ?_ ?_) | (with_reducible intro _))
                  all_goals try omega
                  refine ⟨(j + 1, ⟨e1, e2, e3, e4, eq⟩), ⟨⟨by dsimp only; omega, by show _ = roundD _; rw [← hr]; unfold roundD; rw [hcs, ht0, ht1]⟩, by dsimp only; omega⟩, SubS.weak ?_⟩
                  simp (config := { maxSteps := 2000000 }) only [go_sem, hG, hP, Nat.reduceEqDiff, ↓reduceIte, reduceCtorEq, Nat.reduceAdd, Nat.reduceSub, Nat.reduceMul, Nat.reduceLT, Nat.reduceLeDiff, Int.reduceAdd, Int.reduceSub, Int.reduceMul, Int.reduceLT, Int.reduceLE, Int.reduceEq, Int.reduceNeg, Int.reduceNe, Int.reduceGE, Int.reduceGT, Nat.reduceBEq, Int.reduceToNat]
                  all_goals simp
                · rcases ht1 : timer ⟨e1, e2, e3, e4, eq⟩ 1 with ⟨f1, f2, f3, f4, fq⟩
                  simp (config := { maxSteps := 2000000 }) only [go_sem, hG, hP, Nat.reduceEqDiff, ↓reduceIte, reduceCtorEq, Nat.reduceAdd, Nat.reduceSub, Nat.reduceMul, Nat.reduceLT, Nat.reduceLeDiff, Int.reduceAdd, Int.reduceSub, Int.reduceMul, Int.reduceLT, Int.reduceLE, Int.reduceEq, Int.reduceNeg, Int.reduceNe, Int.reduceGE, Int.reduceGT, Nat.reduceBEq, Int.reduceToNat,  spToDu_f, spToDu_t, spToDu_k, spDuOk_f, spDuOk_t, spDuOk_k, spIn_f, spIn_t, spIn_k, spCarr_f, spCarr_t, spCarr_k, spTimer_f, spTimer_t, spTimer_k, takeA5_eq, ↓stayK_eq, hd', hcs, hlte, hg0, ht0, hg1, ht1]
                  (try simp (disch := omega) only [wrap_id])
                  repeat' (first | (refine And.intro ?_ ?_) | (with_reducible intro _))
                  all_goals try omega
                  refine ⟨(j + 1, ⟨f1, f2, f3, f4, fq⟩), ⟨⟨by dsimp only; omega, by show _ = roundD _; rw [← hr]; unfold roundD; rw [hcs, ht0, ht1]⟩, by dsimp only; omega⟩, SubS.weak ?_⟩
                  simp (config := { maxSteps := 2000000 }) only [go_sem, hG, hP, Nat.reduceEqDiff, ↓reduceIte, reduceCtorEq, Nat.reduceAdd, Nat.reduceSub, Nat.reduceMul, Nat.reduceLT, Nat.reduceLeDiff, Int.reduceAdd, Int.reduceSub, Int.reduceMul, Int.reduceLT, Int.reduceLE, Int.reduceEq, Int.reduceNeg, Int.reduceNe, Int.reduceGE, Int.reduceGT, Nat.reduceBEq, Int.reduceToNat]
                  all_goals simp
            · have hlte := eq_false hlt
              obtain rfl : j = m := by omega
              rw [← hr, hcs] at h
              simp (config := { maxSteps := 2000000 }) only [go_sem, hG, hP, Nat.reduceEqDiff, ↓reduceIte, reduceCtorEq, Nat.reduceAdd, Nat.reduceSub, Nat.reduceMul, Nat.reduceLT, Nat.reduceLeDiff, Int.reduceAdd, Int.reduceSub, Int.reduceMul, Int.reduceLT, Int.reduceLE, Int.reduceEq, Int.reduceNeg, Int.reduceNe, Int.reduceGE, Int.reduceGT, Nat.reduceBEq, Int.reduceToNat,  spToDu_f, spToDu_t, spToDu_k, spDuOk_f, spDuOk_t, spDuOk_k, spIn_f, spIn_t, spIn_k, spCarr_f, spCarr_t, spCarr_k, spTimer_f, spTimer_t, spTimer_k, takeA5_eq, ↓stayK_eq, hd', hcs, hlte]
              repeat' (first | (refine And.intro ?_ ?_) | (with_reducible intro _))
              all_goals first | omega | (refine ⟨_, _, _, ?_, h⟩; simp only [duA_eq, duL_eq]; simp (config := { maxSteps := 2000000 }) only [go_sem, hG, hP, Nat.reduceEqDiff, ↓reduceIte, reduceCtorEq, Nat.reduceAdd, Nat.reduceSub, Nat.reduceMul, Nat.reduceLT, Nat.reduceLeDiff, Int.reduceAdd, Int.reduceSub, Int.reduceMul, Int.reduceLT, Int.reduceLE, Int.reduceEq, Int.reduceNeg, Int.reduceNe, Int.reduceGE, Int.reduceGT, Nat.reduceBEq, Int.reduceToNat]; all_goals (first | (simp; done) | omega))
          · have hqe := eq_false hq
            by_cases hlt : (j : Int) < (m : Int)
            · have hlte := eq_true hlt
              cases hg0 : timerG ⟨c1, c2, c3, c4, []⟩ 0
              · have ht0 := timer_no hg0
                cases hg1 : timerG ⟨c1, c2, c3, c4, []⟩ 1
                · have ht1 := timer_no hg1
                  simp (config := { maxSteps := 2000000 }) only [go_sem, hG, hP, Nat.reduceEqDiff, ↓reduceIte, reduceCtorEq, Nat.reduceAdd, Nat.reduceSub, Nat.reduceMul, Nat.reduceLT, Nat.reduceLeDiff, Int.reduceAdd, Int.reduceSub, Int.reduceMul, Int.reduceLT, Int.reduceLE, Int.reduceEq, Int.reduceNeg, Int.reduceNe, Int.reduceGE, Int.reduceGT, Nat.reduceBEq, Int.reduceToNat,  spToDu_f, spToDu_t, spToDu_k, spDuOk_f, spDuOk_t, spDuOk_k, spIn_f, spIn_t, spIn_k, spCarr_f, spCarr_t, spCarr_k, spTimer_f, spTimer_t, spTimer_k, takeA5_eq, ↓stayK_eq, hd', hqe, hc, hlte, hg0, ht0, hg1, ht1]
                  (try simp (disch := omega) only [wrap_id])
                  repeat' (first | (refine And.intro ?_ ?_) | (with_reducible intro _))
                  all_goals try omega
                  refine ⟨(j + 1, ⟨c1, c2, c3, c4, []⟩), ⟨⟨by dsimp only; omega, by show _ = roundD _; rw [← hr]; unfold roundD; rw [hc, ht0, ht1]⟩, by dsimp only; omega⟩, SubS.weak ?_⟩
                  simp (config := { maxSteps := 2000000 }) only [go_sem, hG, hP, Nat.reduceEqDiff, ↓reduceIte, reduceCtorEq, Nat.reduceAdd, Nat.reduceSub, Nat.reduceMul, Nat.reduceLT, Nat.reduceLeDiff, Int.reduceAdd, Int.reduceSub, Int.reduceMul, Int.reduceLT, Int.reduceLE, Int.reduceEq, Int.reduceNeg, Int.reduceNe, Int.reduceGE, Int.reduceGT, Nat.reduceBEq, Int.reduceToNat]
                  all_goals simp
                · rcases ht1 : timer ⟨c1, c2, c3, c4, []⟩ 1 with ⟨f1, f2, f3, f4, fq⟩
                  simp (config := { maxSteps := 2000000 }) only [go_sem, hG, hP, Nat.reduceEqDiff, ↓reduceIte, reduceCtorEq, Nat.reduceAdd, Nat.reduceSub, Nat.reduceMul, Nat.reduceLT, Nat.reduceLeDiff, Int.reduceAdd, Int.reduceSub, Int.reduceMul, Int.reduceLT, Int.reduceLE, Int.reduceEq, Int.reduceNeg, Int.reduceNe, Int.reduceGE, Int.reduceGT, Nat.reduceBEq, Int.reduceToNat,  spToDu_f, spToDu_t, spToDu_k, spDuOk_f, spDuOk_t, spDuOk_k, spIn_f, spIn_t, spIn_k, spCarr_f, spCarr_t, spCarr_k, spTimer_f, spTimer_t, spTimer_k, takeA5_eq, ↓stayK_eq, hd', hqe, hc, hlte, hg0, ht0, hg1, ht1]
                  (try simp (disch := omega) only [wrap_id])
                  repeat' (first | (refine And.intro ?_ ?_) | (with_reducible intro _))
                  all_goals try omega
                  refine ⟨(j + 1, ⟨f1, f2, f3, f4, fq⟩), ⟨⟨by dsimp only; omega, by show _ = roundD _; rw [← hr]; unfold roundD; rw [hc, ht0, ht1]⟩, by dsimp only; omega⟩, SubS.weak ?_⟩
                  simp (config := { maxSteps := 2000000 }) only [go_sem, hG, hP, Nat.reduceEqDiff, ↓reduceIte, reduceCtorEq, Nat.reduceAdd, Nat.reduceSub, Nat.reduceMul, Nat.reduceLT, Nat.reduceLeDiff, Int.reduceAdd, Int.reduceSub, Int.reduceMul, Int.reduceLT, Int.reduceLE, Int.reduceEq, Int.reduceNeg, Int.reduceNe, Int.reduceGE, Int.reduceGT, Nat.reduceBEq, Int.reduceToNat]
                  all_goals simp
              · rcases ht0 : timer ⟨c1, c2, c3, c4, []⟩ 0 with ⟨e1, e2, e3, e4, eq⟩
                have hel := (timer_ok (p := 0) hcd (by show 0 < 40; decide)).2
                rw [ht0] at hel
                simp only [List.length_nil] at hel
                cases hg1 : timerG ⟨e1, e2, e3, e4, eq⟩ 1
                · have ht1 := timer_no hg1
                  simp (config := { maxSteps := 2000000 }) only [go_sem, hG, hP, Nat.reduceEqDiff, ↓reduceIte, reduceCtorEq, Nat.reduceAdd, Nat.reduceSub, Nat.reduceMul, Nat.reduceLT, Nat.reduceLeDiff, Int.reduceAdd, Int.reduceSub, Int.reduceMul, Int.reduceLT, Int.reduceLE, Int.reduceEq, Int.reduceNeg, Int.reduceNe, Int.reduceGE, Int.reduceGT, Nat.reduceBEq, Int.reduceToNat,  spToDu_f, spToDu_t, spToDu_k, spDuOk_f, spDuOk_t, spDuOk_k, spIn_f, spIn_t, spIn_k, spCarr_f, spCarr_t, spCarr_k, spTimer_f, spTimer_t, spTimer_k, takeA5_eq, ↓stayK_eq, hd', hqe, hc, hlte, hg0, ht0, hg1, ht1]
                  (try simp (disch := omega) only [wrap_id])
                  repeat' (first | (refine And.intro ?_ ?_) | (with_reducible intro _))
                  all_goals try omega
                  refine ⟨(j + 1, ⟨e1, e2, e3, e4, eq⟩), ⟨⟨by dsimp only; omega, by show _ = roundD _; rw [← hr]; unfold roundD; rw [hc, ht0, ht1]⟩, by dsimp only; omega⟩, SubS.weak ?_⟩
                  simp (config := { maxSteps := 2000000 }) only [go_sem, hG, hP, Nat.reduceEqDiff, ↓reduceIte, reduceCtorEq, Nat.reduceAdd, Nat.reduceSub, Nat.reduceMul, Nat.reduceLT, Nat.reduceLeDiff, Int.reduceAdd, Int.reduceSub, Int.reduceMul, Int.reduceLT, Int.reduceLE, Int.reduceEq, Int.reduceNeg, Int.reduceNe, Int.reduceGE, Int.reduceGT, Nat.reduceBEq, Int.reduceToNat]
                  all_goals simp
                · rcases ht1 : timer ⟨e1, e2, e3, e4, eq⟩ 1 with ⟨f1, f2, f3, f4, fq⟩
                  simp (config := { maxSteps := 2000000 }) only [go_sem, hG, hP, Nat.reduceEqDiff, ↓reduceIte, reduceCtorEq, Nat.reduceAdd, Nat.reduceSub, Nat.reduceMul, Nat.reduceLT, Nat.reduceLeDiff, Int.reduceAdd, Int.reduceSub, Int.reduceMul, Int.reduceLT, Int.reduceLE, Int.reduceEq, Int.reduceNeg, Int.reduceNe, Int.reduceGE, Int.reduceGT, Nat.reduceBEq, Int.reduceToNat,  spToDu_f, spToDu_t, spToDu_k, spDuOk_f, spDuOk_t, spDuOk_k, spIn_f, spIn_t, spIn_k, spCarr_f, spCarr_t, spCarr_k, spTimer_f, spTimer_t, spTimer_k, takeA5_eq, ↓stayK_eq, hd', hqe, hc, hlte, hg0, ht0, hg1, ht1]
                  (try simp (disch := omega) only [wrap_id])
                  repeat' (first | (refine And.intro ?_ ?_) | (with_reducible intro _))
                  all_goals try omega
                  refine ⟨(j + 1, ⟨f1, f2, f3, f4, fq⟩), ⟨⟨by dsimp only; omega, by show _ = roundD _; rw [← hr]; unfold roundD; rw [hc, ht0, ht1]⟩, by dsimp only; omega⟩, SubS.weak ?_⟩
                  simp (config := { maxSteps := 2000000 }) only [go_sem, hG, hP, Nat.reduceEqDiff, ↓reduceIte, reduceCtorEq, Nat.reduceAdd, Nat.reduceSub, Nat.reduceMul, Nat.reduceLT, Nat.reduceLeDiff, Int.reduceAdd, Int.reduceSub, Int.reduceMul, Int.reduceLT, Int.reduceLE, Int.reduceEq, Int.reduceNeg, Int.reduceNe, Int.reduceGE, Int.reduceGT, Nat.reduceBEq, Int.reduceToNat]
                  all_goals simp
            · have hlte := eq_false hlt
              obtain rfl : j = m := by omega
              rw [← hr, hc] at h
              simp (config := { maxSteps := 2000000 }) only [go_sem, hG, hP, Nat.reduceEqDiff, ↓reduceIte, reduceCtorEq, Nat.reduceAdd, Nat.reduceSub, Nat.reduceMul, Nat.reduceLT, Nat.reduceLeDiff, Int.reduceAdd, Int.reduceSub, Int.reduceMul, Int.reduceLT, Int.reduceLE, Int.reduceEq, Int.reduceNeg, Int.reduceNe, Int.reduceGE, Int.reduceGT, Nat.reduceBEq, Int.reduceToNat,  spToDu_f, spToDu_t, spToDu_k, spDuOk_f, spDuOk_t, spDuOk_k, spIn_f, spIn_t, spIn_k, spCarr_f, spCarr_t, spCarr_k, spTimer_f, spTimer_t, spTimer_k, takeA5_eq, ↓stayK_eq, hd', hqe, hc, hlte]
              repeat' (first | (refine And.intro ?_ ?_) | (with_reducible intro _))
              all_goals first | omega | (refine ⟨_, _, _, ?_, h⟩; simp only [duA_eq, duL_eq]; simp (config := { maxSteps := 2000000 }) only [go_sem, hG, hP, Nat.reduceEqDiff, ↓reduceIte, reduceCtorEq, Nat.reduceAdd, Nat.reduceSub, Nat.reduceMul, Nat.reduceLT, Nat.reduceLeDiff, Int.reduceAdd, Int.reduceSub, Int.reduceMul, Int.reduceLT, Int.reduceLE, Int.reduceEq, Int.reduceNeg, Int.reduceNe, Int.reduceGE, Int.reduceGT, Nat.reduceBEq, Int.reduceToNat]; all_goals (first | (simp; done) | omega))
  · exact h.elim
theorem valid17 : Valid Try.prog 17 spSettle := by
  refine validI (Γ := lk [(48, spDuOk), (40, spIn), (49, spToDu), (50, spCarrB), (23, spDoEv)]) Try.func17 bod17 low17 res17 (good_of ⟨⟨cal48, valid48⟩, ⟨cal40, valid40⟩, ⟨cal49, valid49⟩, ⟨cal50, valid50⟩, ⟨cal23, valid23⟩, trivial⟩) ?_
  intro E args objs K h hE hG hP
  simp only [spSettle] at h
  split at h
  · refine ⟨by simp [Try.ntmps17], ?_⟩
    rename_i a x b y q n
    obtain ⟨b1, h⟩ := h
    cases hd : duOk ⟨a, x, b, y, q⟩
    · have e : settleD ⟨a, x, b, y, q⟩ n = ⟨0, 0, 0, 0, []⟩ := if_neg (fun e => by rw [hd] at e; cases e.1)
      rw [e] at h
      simp (config := { maxSteps := 2000000 }) only [go_sem, hG, hP, Nat.reduceEqDiff, ↓reduceIte, reduceCtorEq, Nat.reduceAdd, Nat.reduceSub, Nat.reduceMul, Nat.reduceLT, Nat.reduceLeDiff, Int.reduceAdd, Int.reduceSub, Int.reduceMul, Int.reduceLT, Int.reduceLE, Int.reduceEq, Int.reduceNeg, Int.reduceNe, Int.reduceGE, Int.reduceGT, Nat.reduceBEq, Int.reduceToNat,  spToDu_f, spToDu_t, spToDu_k, spDuOk_f, spDuOk_t, spDuOk_k, spIn_f, spIn_t, spIn_k, spCarrB_f, spCarrB_t, spCarrB_k, spDoEv_f, spDoEv_t, spDoEv_k, takeBoxH_eq, boxTk_eq, hd]
      repeat' (first | (refine And.intro ?_ ?_) | (with_reducible intro _))
      all_goals first | omega | (refine ⟨_, _, _, ?_, h⟩; simp only [duA_eq, duL_eq]; simp (config := { maxSteps := 2000000 }) only [go_sem, hG, hP, Nat.reduceEqDiff, ↓reduceIte, reduceCtorEq, Nat.reduceAdd, Nat.reduceSub, Nat.reduceMul, Nat.reduceLT, Nat.reduceLeDiff, Int.reduceAdd, Int.reduceSub, Int.reduceMul, Int.reduceLT, Int.reduceLE, Int.reduceEq, Int.reduceNeg, Int.reduceNe, Int.reduceGE, Int.reduceGT, Nat.reduceBEq, Int.reduceToNat]; all_goals (first | (simp; done) | omega))
    · by_cases hn : 0 ≤ n ∧ n ≤ 20
      rotate_left
      · have hne := eq_false hn
        have e : settleD ⟨a, x, b, y, q⟩ n = ⟨0, 0, 0, 0, []⟩ := if_neg (fun e => hn e.2)
        rw [e] at h
        simp (config := { maxSteps := 2000000 }) only [go_sem, hG, hP, Nat.reduceEqDiff, ↓reduceIte, reduceCtorEq, Nat.reduceAdd, Nat.reduceSub, Nat.reduceMul, Nat.reduceLT, Nat.reduceLeDiff, Int.reduceAdd, Int.reduceSub, Int.reduceMul, Int.reduceLT, Int.reduceLE, Int.reduceEq, Int.reduceNeg, Int.reduceNe, Int.reduceGE, Int.reduceGT, Nat.reduceBEq, Int.reduceToNat,  spToDu_f, spToDu_t, spToDu_k, spDuOk_f, spDuOk_t, spDuOk_k, spIn_f, spIn_t, spIn_k, spCarrB_f, spCarrB_t, spCarrB_k, spDoEv_f, spDoEv_t, spDoEv_k, takeBoxH_eq, boxTk_eq, hd, hne]
        repeat' (first | (refine And.intro ?_ ?_) | (with_reducible intro _))
        all_goals first | omega | (refine ⟨_, _, _, ?_, h⟩; simp only [duA_eq, duL_eq]; simp (config := { maxSteps := 2000000 }) only [go_sem, hG, hP, Nat.reduceEqDiff, ↓reduceIte, reduceCtorEq, Nat.reduceAdd, Nat.reduceSub, Nat.reduceMul, Nat.reduceLT, Nat.reduceLeDiff, Int.reduceAdd, Int.reduceSub, Int.reduceMul, Int.reduceLT, Int.reduceLE, Int.reduceEq, Int.reduceNeg, Int.reduceNe, Int.reduceGE, Int.reduceGT, Nat.reduceBEq, Int.reduceToNat]; all_goals (first | (simp; done) | omega))
      · have hne := eq_true hn
        obtain ⟨m, rfl⟩ : ∃ m : Nat, n = m := ⟨n.toNat, by omega⟩
        have e : settleD ⟨a, x, b, y, q⟩ m = carD (roundsD m ⟨a, x, b, y, q⟩) := by unfold settleD; rw [if_pos ⟨hd, hn⟩, Int.toNat_natCast]
        rw [e] at h
        simp (config := { maxSteps := 2000000 }) only [go_sem, hG, hP, Nat.reduceEqDiff, ↓reduceIte, reduceCtorEq, Nat.reduceAdd, Nat.reduceSub, Nat.reduceMul, Nat.reduceLT, Nat.reduceLeDiff, Int.reduceAdd, Int.reduceSub, Int.reduceMul, Int.reduceLT, Int.reduceLE, Int.reduceEq, Int.reduceNeg, Int.reduceNe, Int.reduceGE, Int.reduceGT, Nat.reduceBEq, Int.reduceToNat,  spToDu_f, spToDu_t, spToDu_k, spDuOk_f, spDuOk_t, spDuOk_k, spIn_f, spIn_t, spIn_k, spCarrB_f, spCarrB_t, spCarrB_k, spDoEv_f, spDoEv_t, spDoEv_k, takeBoxH_eq, boxTk_eq, hd, hne]
        repeat (refine And.intro (by first | omega | (simp; done) | (simp; omega) | (unfold appRoom; omega)) ?_)
        refine loopI hE (fun p : Nat × Du => ⟨[(2, .ptr 0 0), (4, .ptr 1 0), (5, .fn 50 [.ptr 0 0]), (19, .v (.int .i64 m)), (20, .v (.int .i64 p.1))], [(0, .box [.v (.int .i64 p.2.a), .v (.int .i64 p.2.x), .v (.int .i64 p.2.b), .v (.int .i64 p.2.y), .sub 2 3 0 p.2.q.length]), (1, .box [.v (.int .i64 0), .v (.int .i64 0), .v (.int .i64 0), .v (.int .i64 0), .v (.slice none 0 0)]), (2, .row .sig p.2.q)], 3, Try.f17.ntmps⟩) (fun p => p.1 ≤ m ∧ p.2 = roundsD p.1 ⟨a, x, b, y, q⟩) (fun p => m - p.1) ⟨(0, ⟨a, x, b, y, q⟩), ⟨Nat.zero_le _, rfl⟩, SubS.weak ?_⟩ ?_
        · simp (config := { maxSteps := 2000000 }) only [go_sem, hG, hP, Nat.reduceEqDiff, ↓reduceIte, reduceCtorEq, Nat.reduceAdd, Nat.reduceSub, Nat.reduceMul, Nat.reduceLT, Nat.reduceLeDiff, Int.reduceAdd, Int.reduceSub, Int.reduceMul, Int.reduceLT, Int.reduceLE, Int.reduceEq, Int.reduceNeg, Int.reduceNe, Int.reduceGE, Int.reduceGT, Nat.reduceBEq, Int.reduceToNat]
          all_goals simp
        · rintro ⟨j, ⟨a', x', b', y', q'⟩⟩ ⟨hj, hr⟩
          dsimp only at hj hr
          have hd' : duOk ⟨a', x', b', y', q'⟩ = true := by rw [hr]; exact roundsD_ok hd _
          have hcd := carD_ok hd'
          rcases hc : carD ⟨a', x', b', y', q'⟩ with ⟨c1, c2, c3, c4, cq⟩
          rw [hc] at hcd
          obtain ⟨hcd, rfl⟩ : duOk ⟨c1, c2, c3, c4, cq⟩ = true ∧ cq = [] := hcd
          have hl' := (duOk_head hd').2
          dsimp only at hl'
          by_cases hq : q' = []
          · subst hq
            have hcs : carD ⟨a', x', b', y', []⟩ = ⟨a', x', b', y', []⟩ := carF_done rfl _
            rw [hcs] at hc
            cases hc
            by_cases hlt : (j : Int) < (m : Int)
            · have hlte := eq_true hlt
              have ht0 := timer_do (p := 0) hcd (by show 0 < 40; decide) (.inl rfl)
              have htk := timer_ok (p := 0) hcd (by show 0 < 40; decide)
              rcases hv0 : timer ⟨a', x', b', y', []⟩ 0 with ⟨e1, e2, e3, e4, eq⟩
              rw [hv0] at ht0 htk
              have htk2 : eq.length ≤ 1 := by have := htk.2; simpa using this
              have ht1 := timer_do (p := 1) htk.1 (by dsimp only; omega) (.inr rfl)
              rcases hv1 : timer ⟨e1, e2, e3, e4, eq⟩ 1 with ⟨f1, f2, f3, f4, fq⟩
              rw [hv1] at ht1
              simp (config := { maxSteps := 2000000 }) only [go_sem, hG, hP, Nat.reduceEqDiff, ↓reduceIte, reduceCtorEq, Nat.reduceAdd, Nat.reduceSub, Nat.reduceMul, Nat.reduceLT, Nat.reduceLeDiff, Int.reduceAdd, Int.reduceSub, Int.reduceMul, Int.reduceLT, Int.reduceLE, Int.reduceEq, Int.reduceNeg, Int.reduceNe, Int.reduceGE, Int.reduceGT, Nat.reduceBEq, Int.reduceToNat,  spToDu_f, spToDu_t, spToDu_k, spDuOk_f, spDuOk_t, spDuOk_k, spIn_f, spIn_t, spIn_k, spCarrB_f, spCarrB_t, spCarrB_k, spDoEv_f, spDoEv_t, spDoEv_k, takeBoxH_eq, boxTk_eq, hd', hcs, hlte]
              repeat (refine And.intro (by first | omega | (simp; done) | (simp; omega) | (unfold appRoom; omega)) ?_)
              refine unrollI hE [(), (), ()] ?_
              simp (config := { maxSteps := 2000000 }) only [go_sem, hG, hP, Nat.reduceEqDiff, ↓reduceIte, reduceCtorEq, Nat.reduceAdd, Nat.reduceSub, Nat.reduceMul, Nat.reduceLT, Nat.reduceLeDiff, Int.reduceAdd, Int.reduceSub, Int.reduceMul, Int.reduceLT, Int.reduceLE, Int.reduceEq, Int.reduceNeg, Int.reduceNe, Int.reduceGE, Int.reduceGT, Nat.reduceBEq, Int.reduceToNat,  spToDu_f, spToDu_t, spToDu_k, spDuOk_f, spDuOk_t, spDuOk_k, spIn_f, spIn_t, spIn_k, spCarrB_f, spCarrB_t, spCarrB_k, spDoEv_f, spDoEv_t, spDoEv_k, takeBoxH_eq, boxTk_eq, ht0, ht1, duA_eq, duL_eq]
              (try simp (disch := omega) only [wrap_id])
              repeat' (first | (refine And.intro ?_ ?_) | (with_reducible intro _))
              all_goals try omega
              refine ⟨(j + 1, ⟨f1, f2, f3, f4, fq⟩), ⟨⟨by dsimp only; omega, by show _ = roundD _; rw [← hr]; unfold roundD; rw [hcs, hv0, hv1]⟩, by dsimp only; omega⟩, SubS.weak ?_⟩
              simp (config := { maxSteps := 2000000 }) only [go_sem, hG, hP, Nat.reduceEqDiff, ↓reduceIte, reduceCtorEq, Nat.reduceAdd, Nat.reduceSub, Nat.reduceMul, Nat.reduceLT, Nat.reduceLeDiff, Int.reduceAdd, Int.reduceSub, Int.reduceMul, Int.reduceLT, Int.reduceLE, Int.reduceEq, Int.reduceNeg, Int.reduceNe, Int.reduceGE, Int.reduceGT, Nat.reduceBEq, Int.reduceToNat]
              all_goals simp
            · have hlte := eq_false hlt
              obtain rfl : j = m := by omega
              rw [← hr, hcs] at h
              simp (config := { maxSteps := 2000000 }) only [go_sem, hG, hP, Nat.reduceEqDiff, ↓reduceIte, reduceCtorEq, Nat.reduceAdd, Nat.reduceSub, Nat.reduceMul, Nat.reduceLT, Nat.reduceLeDiff, Int.reduceAdd, Int.reduceSub, Int.reduceMul, Int.reduceLT, Int.reduceLE, Int.reduceEq, Int.reduceNeg, Int.reduceNe, Int.reduceGE, Int.reduceGT, Nat.reduceBEq, Int.reduceToNat,  spToDu_f, spToDu_t, spToDu_k, spDuOk_f, spDuOk_t, spDuOk_k, spIn_f, spIn_t, spIn_k, spCarrB_f, spCarrB_t, spCarrB_k, spDoEv_f, spDoEv_t, spDoEv_k, takeBoxH_eq, boxTk_eq, hd', hcs, hlte]
              repeat' (first | (refine And.intro ?_ ?_) | (with_reducible intro _))
              all_goals first | omega | (refine ⟨_, _, _, ?_, h⟩; simp only [duA_eq, duL_eq]; simp (config := { maxSteps := 2000000 }) only [go_sem, hG, hP, Nat.reduceEqDiff, ↓reduceIte, reduceCtorEq, Nat.reduceAdd, Nat.reduceSub, Nat.reduceMul, Nat.reduceLT, Nat.reduceLeDiff, Int.reduceAdd, Int.reduceSub, Int.reduceMul, Int.reduceLT, Int.reduceLE, Int.reduceEq, Int.reduceNeg, Int.reduceNe, Int.reduceGE, Int.reduceGT, Nat.reduceBEq, Int.reduceToNat]; all_goals (first | (simp; done) | omega))
          · have hqe := eq_false hq
            by_cases hlt : (j : Int) < (m : Int)
            · have hlte := eq_true hlt
              have ht0 := timer_do (p := 0) hcd (by show 0 < 40; decide) (.inl rfl)
              have htk := timer_ok (p := 0) hcd (by show 0 < 40; decide)
              rcases hv0 : timer ⟨c1, c2, c3, c4, []⟩ 0 with ⟨e1, e2, e3, e4, eq⟩
              rw [hv0] at ht0 htk
              have htk2 : eq.length ≤ 1 := by have := htk.2; simpa using this
              have ht1 := timer_do (p := 1) htk.1 (by dsimp only; omega) (.inr rfl)
              rcases hv1 : timer ⟨e1, e2, e3, e4, eq⟩ 1 with ⟨f1, f2, f3, f4, fq⟩
              rw [hv1] at ht1
              simp (config := { maxSteps := 2000000 }) only [go_sem, hG, hP, Nat.reduceEqDiff, ↓reduceIte, reduceCtorEq, Nat.reduceAdd, Nat.reduceSub, Nat.reduceMul, Nat.reduceLT, Nat.reduceLeDiff, Int.reduceAdd, Int.reduceSub, Int.reduceMul, Int.reduceLT, Int.reduceLE, Int.reduceEq, Int.reduceNeg, Int.reduceNe, Int.reduceGE, Int.reduceGT, Nat.reduceBEq, Int.reduceToNat,  spToDu_f, spToDu_t, spToDu_k, spDuOk_f, spDuOk_t, spDuOk_k, spIn_f, spIn_t, spIn_k, spCarrB_f, spCarrB_t, spCarrB_k, spDoEv_f, spDoEv_t, spDoEv_k, takeBoxH_eq, boxTk_eq, hd', hqe, hc, hlte]
              repeat (refine And.intro (by first | omega | (simp; done) | (simp; omega) | (unfold appRoom; omega)) ?_)
              refine unrollI hE [(), (), ()] ?_
              simp (config := { maxSteps := 2000000 }) only [go_sem, hG, hP, Nat.reduceEqDiff, ↓reduceIte, reduceCtorEq, Nat.reduceAdd, Nat.reduceSub, Nat.reduceMul, Nat.reduceLT, Nat.reduceLeDiff, Int.reduceAdd, Int.reduceSub, Int.reduceMul, Int.reduceLT, Int.reduceLE, Int.reduceEq, Int.reduceNeg, Int.reduceNe, Int.reduceGE, Int.reduceGT, Nat.reduceBEq, Int.reduceToNat,  spToDu_f, spToDu_t, spToDu_k, spDuOk_f, spDuOk_t, spDuOk_k, spIn_f, spIn_t, spIn_k, spCarrB_f, spCarrB_t, spCarrB_k, spDoEv_f, spDoEv_t, spDoEv_k, takeBoxH_eq, boxTk_eq, ht0, ht1, duA_eq, duL_eq]
              (try simp (disch := omega) only [wrap_id])
              repeat' (first | (refine And.intro ?_ ?_) | (with_reducible intro _))
              all_goals try omega
              refine ⟨(j + 1, ⟨f1, f2, f3, f4, fq⟩), ⟨⟨by dsimp only; omega, by show _ = roundD _; rw [← hr]; unfold roundD; rw [hc, hv0, hv1]⟩, by dsimp only; omega⟩, SubS.weak ?_⟩
              simp (config := { maxSteps := 2000000 }) only [go_sem, hG, hP, Nat.reduceEqDiff, ↓reduceIte, reduceCtorEq, Nat.reduceAdd, Nat.reduceSub, Nat.reduceMul, Nat.reduceLT, Nat.reduceLeDiff, Int.reduceAdd, Int.reduceSub, Int.reduceMul, Int.reduceLT, Int.reduceLE, Int.reduceEq, Int.reduceNeg, Int.reduceNe, Int.reduceGE, Int.reduceGT, Nat.reduceBEq, Int.reduceToNat]
              all_goals simp
            · have hlte := eq_false hlt
              obtain rfl : j = m := by omega
              rw [← hr, hc] at h
              simp (config := { maxSteps := 2000000 }) only [go_sem, hG, hP, Nat.reduceEqDiff, ↓reduceIte, reduceCtorEq, Nat.reduceAdd, Nat.reduceSub, Nat.reduceMul, Nat.reduceLT, Nat.reduceLeDiff, Int.reduceAdd, Int.reduceSub, Int.reduceMul, Int.reduceLT, Int.reduceLE, Int.reduceEq, Int.reduceNeg, Int.reduceNe, Int.reduceGE, Int.reduceGT, Nat.reduceBEq, Int.reduceToNat,  spToDu_f, spToDu_t, spToDu_k, spDuOk_f, spDuOk_t, spDuOk_k, spIn_f, spIn_t, spIn_k, spCarrB_f, spCarrB_t, spCarrB_k, spDoEv_f, spDoEv_t, spDoEv_k, takeBoxH_eq, boxTk_eq, hd', hqe, hc, hlte]
              repeat' (first | (refine And.intro ?_ ?_) | (with_reducible intro _))
              all_goals first | omega | (refine ⟨_, _, _, ?_, h⟩; simp only [duA_eq, duL_eq]; simp (config := { maxSteps := 2000000 }) only [go_sem, hG, hP, Nat.reduceEqDiff, ↓reduceIte, reduceCtorEq, Nat.reduceAdd, Nat.reduceSub, Nat.reduceMul, Nat.reduceLT, Nat.reduceLeDiff, Int.reduceAdd, Int.reduceSub, Int.reduceMul, Int.reduceLT, Int.reduceLE, Int.reduceEq, Int.reduceNeg, Int.reduceNe, Int.reduceGE, Int.reduceGT, Nat.reduceBEq, Int.reduceToNat]; all_goals (first | (simp; done) | omega))
  · exact h.elim
end Go.Proofs.YtiakjdcognckpaaE

/-! What is so of two halves that began with nothing, whatever happened; and what settling does. -/
namespace Go.Proofs.YtiakjdcognckpaaE
open Go Go.RowKit
set_option linter.unusedSimpArgs false
set_option linter.unusedVariables false
set_option maxRecDepth 20000
set_option maxHeartbeats 4000000

/-- A signal of the last call tells of what its sender has come to. -/
def sInv (a x b y : Int) (s : Sig) : Prop :=
  s.call = x → (s.kind = 2 → s.to = 0 → y = x ∧ (b = 3 ∨ b = 4 ∨ b = 0)) ∧ (s.kind = 3 → s.to = 0 → y = x ∧ (b = 4 ∨ b = 0)) ∧ (s.kind = 3 → s.to = 1 → a = 4 ∨ a = 0) ∧
    (s.kind = 4 → s.to = 0 → y = x ∧ b = 0) ∧ (s.kind = 4 → s.to = 1 → a = 4 ∨ a = 0)
def hInv (a x b y : Int) : Prop :=
  (y < x → a = 1 ∨ a = 4) ∧ (y = x → (b = 0 → a = 0 ∨ a = 4) ∧ (b = 2 → a = 1 ∨ a = 4) ∧ (b = 3 → a = 1 ∨ a = 3 ∨ a = 4))
def Inv (d : Du) : Prop := duOk d = true ∧ hInv d.a d.x d.b d.y ∧ ∀ s ∈ d.q, sInv d.a d.x d.b d.y s
theorem inv_zero : Inv ⟨0, 0, 0, 0, []⟩ := by
  refine ⟨by decide, ?_, fun s hs => by cases hs⟩
  unfold hInv; dsimp only; omega
theorem sig_mem {d : Du} (h : duOk d = true) {s : Sig} (hs : s ∈ d.q) : (0 ≤ s.to ∧ s.to ≤ 1) ∧ (1 ≤ s.kind ∧ s.kind ≤ 4) ∧ (0 ≤ s.call ∧ s.call ≤ d.x) := by
  have := duOk_all h
  rw [List.all_eq_true] at this
  have := this s hs
  simp only [sigOk, Bool.and_eq_true, decide_eq_true_eq] at this
  exact ⟨this.1.1, this.1.2, this.2⟩
/-- What a step does to the signals that stay, and to the halves. -/
theorem arr_inv {a x b y : Int} {q : List Sig} {s : Sig} (hH : headP a x b y) (hh : hInv a x b y) (hs : sInv a x b y s) (ho : (0 ≤ s.to ∧ s.to ≤ 1) ∧ (1 ≤ s.kind ∧ s.kind ≤ 4) ∧ (0 ≤ s.call ∧ s.call ≤ x))
    (hq : ∀ u ∈ q, sInv a x b y u) : hInv (arr ⟨a, x, b, y, q⟩ s).a (arr ⟨a, x, b, y, q⟩ s).x (arr ⟨a, x, b, y, q⟩ s).b (arr ⟨a, x, b, y, q⟩ s).y ∧
    ∀ u ∈ (arr ⟨a, x, b, y, q⟩ s).q, sInv (arr ⟨a, x, b, y, q⟩ s).a (arr ⟨a, x, b, y, q⟩ s).x (arr ⟨a, x, b, y, q⟩ s).b (arr ⟨a, x, b, y, q⟩ s).y u := by
  unfold headP at hH
  unfold hInv at hh
  unfold sInv at hs
  unfold arr
  repeat' split
  all_goals (refine ⟨by unfold hInv; dsimp only at *; omega, fun u hu => ?_⟩)
  all_goals (try (rw [List.mem_append] at hu; rcases hu with hu | hu))
  all_goals first
    | (have h1 := hq u hu; unfold sInv at h1 ⊢; dsimp only at *; omega)
    | (rw [List.mem_singleton] at hu; subst hu; unfold sInv; dsimp only at *; omega)
def sOk (x : Int) (s : Sig) : Prop := (0 ≤ s.to ∧ s.to ≤ 1) ∧ (1 ≤ s.kind ∧ s.kind ≤ 4) ∧ (0 ≤ s.call ∧ s.call ≤ x)
theorem duOk_of {d : Du} (h1 : headP d.a d.x d.b d.y) (h2 : ∀ s ∈ d.q, sOk d.x s) (h3 : d.q.length ≤ 40) : duOk d = true := by
  refine duOk_mk h1 ?_ h3
  rw [List.all_eq_true]
  exact fun s hs => sigOk_yes (h2 s hs)
theorem mem_delAt {α : Type} {xs : List α} {i : Nat} {u : α} (h : u ∈ delAt xs i) : u ∈ xs := by
  unfold delAt at h
  rcases List.mem_append.1 h with h | h
  · exact List.mem_of_mem_take h
  · exact List.mem_of_mem_drop h
theorem mem_getD {α : Type} {xs : List α} {i : Nat} (d : α) (h : i < xs.length) : xs.getD i d ∈ xs := by
  simp [List.getD, List.getElem?_eq_getElem h]
theorem arr_sok {a x b y : Int} {q : List Sig} {s : Sig} (hH : headP a x b y) (ho : sOk x s) (hq : ∀ u ∈ q, sOk x u) : ∀ u ∈ (arr ⟨a, x, b, y, q⟩ s).q, sOk (arr ⟨a, x, b, y, q⟩ s).x u := by
  have e : (arr ⟨a, x, b, y, q⟩ s).x = x := arr_x (d := ⟨a, x, b, y, q⟩) ho.2.2.2
  rw [e]
  have h1 : q.all (sigOk x) = true := by rw [List.all_eq_true]; exact fun s hs => sigOk_yes (hq s hs)
  have h2 := arr_all (d := ⟨a, x, b, y, q⟩) hH ho.2.2 h1
  rw [List.all_eq_true] at h2
  intro u hu
  have := h2 u hu
  simp only [sigOk, Bool.and_eq_true, decide_eq_true_eq] at this
  exact ⟨this.1.1, this.1.2, this.2⟩
/-- The parts of what is so, of a Duo that may be too long. -/
def Core (d : Du) : Prop := headP d.a d.x d.b d.y ∧ hInv d.a d.x d.b d.y ∧ ∀ s ∈ d.q, sOk d.x s ∧ sInv d.a d.x d.b d.y s
theorem Inv.core {d : Du} (h : Inv d) : Core d := ⟨(duOk_head h.1).1, h.2.1, fun s hs => ⟨sig_mem h.1 hs, h.2.2 s hs⟩⟩
theorem Core.inv {d : Du} (h : Core d) (hl : d.q.length ≤ 40) : Inv d := ⟨duOk_of h.1 (fun s hs => (h.2.2 s hs).1) hl, h.2.1, fun s hs => (h.2.2 s hs).2⟩
theorem arr_core {a x b y : Int} {q : List Sig} {s : Sig} (h : Core ⟨a, x, b, y, q⟩) (hs : sOk x s ∧ sInv a x b y s) : Core (arr ⟨a, x, b, y, q⟩ s) := by
  obtain ⟨h1, h2, h3⟩ := h
  have h4 := arr_inv h1 h2 hs.2 hs.1 (fun u hu => (h3 u hu).2)
  exact ⟨arr_head (d := ⟨a, x, b, y, q⟩) h1 hs.1.2.2, h4.1, fun u hu => ⟨arr_sok h1 hs.1 (fun u hu => (h3 u hu).1) u hu, h4.2 u hu⟩⟩
theorem core_del {a x b y : Int} {q : List Sig} {i : Nat} (h : Core ⟨a, x, b, y, q⟩) : Core ⟨a, x, b, y, delAt q i⟩ := ⟨h.1, h.2.1, fun u hu => h.2.2 u (mem_delAt hu)⟩
theorem timer_core {a x b y : Int} {q : List Sig} {p : Int} (h : Core ⟨a, x, b, y, q⟩) : Core (timer ⟨a, x, b, y, q⟩ p) := by
  have hk := h
  obtain ⟨h1, h2, h3⟩ := h
  dsimp only at h1 h2 h3
  have h1' := h1
  unfold headP at h1'
  unfold timer
  repeat' split
  all_goals first
    | exact hk
    | (refine ⟨h1, h2, fun u hu => ?_⟩
       dsimp only at *
       rcases List.mem_append.1 hu with hu | hu
       · exact h3 u hu
       · rw [List.mem_singleton] at hu; subst hu; unfold sOk sInv; dsimp only; omega)
theorem cleared_core {a x b y : Int} {q : List Sig} {p : Int} (h : Core ⟨a, x, b, y, q⟩) (hc : clearOk ⟨a, x, b, y, q⟩ p = true) : Core (cleared ⟨a, x, b, y, q⟩ p) := by
  obtain ⟨h1, h2, h3⟩ := h
  dsimp only at h1 h2 h3
  unfold headP at h1
  unfold hInv at h2
  unfold clearOk at hc
  unfold cleared
  split at hc
  all_goals
    rename_i hp
    simp only [hp, if_true, if_false]
    rw [decide_eq_true_eq] at hc
    dsimp only at hc
    refine ⟨by unfold headP; dsimp only; omega, by unfold hInv; dsimp only; omega, fun u hu => ?_⟩
    dsimp only at *
    rcases List.mem_append.1 hu with hu | hu
    · have h4 := h3 u hu
      unfold sOk sInv at h4 ⊢
      (try dsimp only at *); omega
    · rw [List.mem_singleton] at hu; subst hu; unfold sOk sInv; dsimp only; omega
theorem ev_core {a x b y : Int} {q : List Sig} {k p : Int} (h : Core ⟨a, x, b, y, q⟩) (ho : evOk ⟨a, x, b, y, q⟩ k p = true) : Core (evD ⟨a, x, b, y, q⟩ k p) := by
  have hk := h
  obtain ⟨h1, h2, h3⟩ := h
  dsimp only at h1 h2 h3
  have h1' := h1
  unfold headP at h1'
  unfold hInv at h2
  unfold evD
  rw [ho, if_neg (by simp)]
  unfold evOk at ho
  by_cases k1 : k = 1
  · rw [if_pos k1] at ho ⊢
    rw [decide_eq_true_eq] at ho
    dsimp only at ho
    refine ⟨by unfold headP; dsimp only; omega, by unfold hInv; dsimp only; omega, fun u hu => ?_⟩
    dsimp only at *
    rcases List.mem_append.1 hu with hu | hu
    · have h4 := h3 u hu
      unfold sOk sInv at h4 ⊢
      (try dsimp only at *); omega
    · rw [List.mem_singleton] at hu; subst hu; unfold sOk sInv; dsimp only; omega
  rw [if_neg k1] at ho ⊢
  by_cases k2 : k = 2
  · rw [if_pos k2] at ho ⊢
    rw [decide_eq_true_eq] at ho
    dsimp only at ho
    refine ⟨by unfold headP; dsimp only; omega, by unfold hInv; dsimp only; omega, fun u hu => ?_⟩
    dsimp only at *
    rcases List.mem_append.1 hu with hu | hu
    · have h4 := h3 u hu
      unfold sOk sInv at h4 ⊢
      (try dsimp only at *); omega
    · rw [List.mem_singleton] at hu; subst hu; unfold sOk sInv; dsimp only; omega
  rw [if_neg k2] at ho ⊢
  by_cases k3 : k = 3
  · rw [if_pos k3] at ho ⊢
    rw [Bool.and_eq_true] at ho
    exact cleared_core hk ho.2
  rw [if_neg k3] at ho ⊢
  by_cases k4 : k = 4
  · rw [if_pos k4] at ho ⊢
    exact timer_core hk
  rw [if_neg k4] at ho ⊢
  split at ho
  · rw [decide_eq_true_eq] at ho
    dsimp only at ho
    have hm := h3 _ (mem_getD (xs := q) (i := p.toNat) ⟨0, 0, 0⟩ (by omega))
    unfold wayD
    split
    · refine ⟨h1, by unfold hInv; exact h2, fun u hu => ?_⟩
      dsimp only at *
      rcases List.mem_append.1 hu with hu | hu
      · exact h3 u hu
      · rw [List.mem_singleton] at hu; subst hu; exact hm
    · split
      · exact arr_core (core_del hk) hm
      · exact core_del hk
  · cases ho
theorem doEv_inv {d : Du} {k p : Int} (h : Inv d) : Inv (doEv d k p).1 := by
  unfold doEv
  split
  · rename_i hc
    simp only [Bool.and_eq_true, decide_eq_true_eq] at hc
    obtain ⟨a, x, b, y, q⟩ := d
    exact (ev_core h.core hc.1.2).inv hc.2
  · exact h
end Go.Proofs.YtiakjdcognckpaaE

/-! Settling: the halves agree. -/
namespace Go.Proofs.YtiakjdcognckpaaE
open Go Go.RowKit
set_option linter.unusedSimpArgs false
set_option linter.unusedVariables false
set_option maxRecDepth 20000
set_option maxHeartbeats 4000000

theorem way0_w {d : Du} (h : d.q ≠ []) : wq (way0 d).q + 1 ≤ wq d.q := by
  obtain ⟨a, x, b, y, q⟩ := d
  cases q with
  | nil => exact absurd rfl h
  | cons s r => rw [way0_eq]; have := arr_w ⟨a, x, b, y, r⟩ s; simp only [wq] at this ⊢; omega
theorem carF_any : ∀ (k : Nat) (d : Du) (k' : Nat), wq d.q ≤ k → wq d.q ≤ k' → carF k d = carF k' d
  | 0, d, k', h1, h2 => by
    have := wq_bd d.q
    have hq : d.q = [] := List.length_eq_zero_iff.1 (show d.q.length = 0 by omega)
    rw [carF_done hq, carF_done hq]
  | k + 1, d, k', h1, h2 => by
    by_cases hq : d.q = []
    · rw [carF_done hq, carF_done hq]
    · have h3 := way0_w hq
      obtain ⟨k2, rfl⟩ : ∃ k2, k' = k2 + 1 := ⟨k' - 1, by omega⟩
      rw [carF_step hq, carF_step hq]
      exact carF_any k _ k2 (by omega) (by omega)
theorem carD_nil {a x b y : Int} : carD ⟨a, x, b, y, []⟩ = ⟨a, x, b, y, []⟩ := carF_done rfl _
theorem carD_cons {a x b y : Int} {s : Sig} {r : List Sig} : carD ⟨a, x, b, y, s :: r⟩ = carD (arr ⟨a, x, b, y, r⟩ s) := by
  have h := way0_w (d := ⟨a, x, b, y, s :: r⟩) (by simp)
  obtain ⟨k, hk⟩ : ∃ k, wq (s :: r) = k + 1 := ⟨wq (s :: r) - 1, by dsimp only at h; omega⟩
  show carF (wq (s :: r)) _ = _
  rw [hk, carF_step (by simp), way0_eq]
  rw [way0_eq] at h
  exact carF_any _ _ _ (by dsimp only at h; omega) (Nat.le_refl _)
def stepT (d : Du) : Du := carD (timer (timer d 0) 1)
theorem settle3 {d : Du} (h : duOk d = true) : settleD d 3 = stepT (stepT (stepT (carD d))) := by
  unfold settleD
  rw [if_pos ⟨h, by decide, by decide⟩]
  rfl
def agr (d : Du) : Prop := (d.y = d.x ∧ ((d.a = 0 ∧ d.b = 0) ∨ (d.a = 3 ∧ d.b = 3) ∨ (d.a = 1 ∧ d.b = 2))) ∨ (d.a = 1 ∧ d.b = 0 ∧ d.y < d.x)
theorem stepT_agr {a x b y : Int} (hH : headP a x b y) (hh : hInv a x b y) : agr (stepT ⟨a, x, b, y, []⟩) := by
  unfold headP at hH
  unfold hInv at hh
  have ha : a = 0 ∨ a = 1 ∨ a = 3 ∨ a = 4 := by omega
  have hb : b = 0 ∨ b = 2 ∨ b = 3 ∨ b = 4 := by omega
  rcases Int.lt_or_le y x with hlt | hle
  · have n1 : ¬ x < y := by omega
    have n2 : ¬ x ≤ y := by omega
    have n3 : ¬ x = y := by omega
    have n4 : ¬ y = x := by omega
    have n5 : y ≤ x := by omega
    rcases ha with rfl | rfl | rfl | rfl
    · omega
    · rcases hb with rfl | rfl | rfl | rfl <;> simp [stepT, timer, carD_cons, carD_nil, arr, agr, hlt, n1, n2, n3, n4, n5]
    · omega
    · rcases hb with rfl | rfl | rfl | rfl <;> simp [stepT, timer, carD_cons, carD_nil, arr, agr, hlt, n1, n2, n3, n4, n5]
  · obtain rfl : y = x := by omega
    rcases ha with rfl | rfl | rfl | rfl <;> rcases hb with rfl | rfl | rfl | rfl
    all_goals first
      | omega
      | simp [stepT, timer, carD_cons, carD_nil, arr, agr]
theorem way0_inv {d : Du} (h : Inv d) (hq : d.q ≠ []) : Inv (way0 d) := by
  have h1 := doEv_inv (k := 5) (p := 0) h
  rw [way0_do h.1 hq] at h1
  exact h1
theorem carF_inv : ∀ (k : Nat) (d : Du), Inv d → Inv (carF k d)
  | 0, d, h => h
  | k + 1, d, h => by
    by_cases hq : d.q = []
    · rw [carF_done hq]; exact h
    · rw [carF_step hq]; exact carF_inv k _ (way0_inv h hq)
theorem carD_inv {d : Du} (h : Inv d) : Inv (carD d) := carF_inv _ d h
theorem timer_inv {d : Du} {p : Int} (h : Inv d) (hl : d.q.length < 40) (hp : p = 0 ∨ p = 1) : Inv (timer d p) := by
  have h1 := doEv_inv (k := 4) (p := p) h
  rw [timer_do h.1 hl hp] at h1
  exact h1
theorem stepT_inv {d : Du} (h : Inv d) (hq : d.q = []) : Inv (stepT d) ∧ (stepT d).q = [] := by
  have h1 := timer_inv (p := 0) h (by rw [hq]; decide) (.inl rfl)
  have h2 := (timer_ok (p := 0) h.1 (by rw [hq]; decide)).2
  rw [hq] at h2
  have h3 := timer_inv (p := 1) h1 (by simp at h2; omega) (.inr rfl)
  exact ⟨carD_inv h3, (carD_ok h3.1).2⟩
theorem timer_x (d : Du) (p : Int) : (timer d p).x = d.x := by
  unfold timer
  repeat' split
  all_goals rfl
theorem way0_x {d : Du} (h : duOk d = true) (hq : d.q ≠ []) : (way0 d).x = d.x := by
  obtain ⟨a, x, b, y, q⟩ := d
  cases q with
  | nil => exact absurd rfl hq
  | cons s r =>
    have hs := duOk_sig h (i := 0) (by simp)
    simp only [List.getD_cons_zero] at hs
    rw [way0_eq]; exact arr_x (d := ⟨a, x, b, y, r⟩) hs.2.2.2
theorem carF_x : ∀ (k : Nat) (d : Du), duOk d = true → (carF k d).x = d.x
  | 0, d, h => rfl
  | k + 1, d, h => by
    by_cases hq : d.q = []
    · rw [carF_done hq]
    · rw [carF_step hq, carF_x k _ (way0_ok h hq).1, way0_x h hq]
theorem stepT_x {d : Du} (h : Inv d) (hq : d.q = []) : (stepT d).x = d.x := by
  have h1 := timer_inv (p := 0) h (by rw [hq]; decide) (.inl rfl)
  have h2 := (timer_ok (p := 0) h.1 (by rw [hq]; decide)).2
  rw [hq] at h2
  have h3 := timer_inv (p := 1) h1 (by simp at h2; omega) (.inr rfl)
  show (carF _ _).x = _
  rw [carF_x _ _ h3.1, timer_x, timer_x]
theorem settle3_all {d : Du} (h : Inv d) : agr (settleD d 3) ∧ (settleD d 3).q = [] ∧ (settleD d 3).x = d.x ∧ Inv (settleD d 3) := by
  rw [settle3 h.1]
  have c0 := carD_inv h
  have q0 := (carD_ok h.1).2
  obtain ⟨c1, q1⟩ := stepT_inv c0 q0
  obtain ⟨c2, q2⟩ := stepT_inv c1 q1
  obtain ⟨c3, q3⟩ := stepT_inv c2 q2
  refine ⟨?_, q3, ?_, c3⟩
  · have h1 := c2.core
    rcases he : stepT (stepT (carD d)) with ⟨a, x, b, y, q⟩
    rw [he] at h1 q2
    dsimp only at q2
    subst q2
    exact stepT_agr h1.1 h1.2.1
  · rw [stepT_x c2 q2, stepT_x c1 q1, stepT_x c0 q0]
    exact carF_x _ _ h.1
end Go.Proofs.YtiakjdcognckpaaE

/-! The code of a function, in the engine's words. -/
namespace Go.Proofs.YtiakjdcognckpaaE
open Go Go.RowKit
@[reducible] def ic33 : IC := (.seq (.ops [⟨some 1, .box (.tmp 0), none⟩, ⟨some 2, .mov (.const (.bool false)), none⟩]) (.seq (.seq (.ops [⟨some 5, .load 5 true (.tmp 1), none⟩, ⟨some 6, .call 48 [(.tmp 5)], none⟩, ⟨some 7, .una .not (.tmp 6), none⟩]) (.cond (.tmp 7) (.seq (.ops [⟨some 2, .mov (.const (.bool false)), none⟩]) .ret) .skip)) (.seq (.draw [⟨some 8, .fadr 0 (.tmp 1), none⟩, ⟨some 9, .iarr 2 2 (.tmp 8) (.const (.int .i64 0)), none⟩, ⟨some 10, .load 2 true (.tmp 9), none⟩, ⟨some 11, .fadr 0 (.tmp 1), none⟩, ⟨some 12, .iarr 2 2 (.tmp 11) (.const (.int .i64 1)), none⟩, ⟨some 13, .load 2 true (.tmp 12), none⟩, ⟨some 3, .new [(.int .i64 0), (.int .i64 0)], none⟩, ⟨some 4, .new [(.int .i64 0), (.int .i64 0)], none⟩, ⟨none, .store 2 (.tmp 3) (.tmp 10), none⟩, ⟨none, .store 2 (.tmp 4) (.tmp 13), none⟩] (.held ⟨some 8, .fadr 0 (.tmp 1), none⟩ (.held ⟨some 9, .iarr 2 2 (.tmp 8) (.const (.int .i64 0)), none⟩ (.held ⟨some 10, .load 2 true (.tmp 9), none⟩ (.held ⟨some 11, .fadr 0 (.tmp 1), none⟩ (.held ⟨some 12, .iarr 2 2 (.tmp 11) (.const (.int .i64 1)), none⟩ (.alt ⟨some 13, .load 2 true (.tmp 12), none⟩ (.alt ⟨some 3, .new [(.int .i64 0), (.int .i64 0)], none⟩ (.alt ⟨some 4, .new [(.int .i64 0), (.int .i64 0)], none⟩ (.alt ⟨none, .store 2 (.tmp 3) (.tmp 10), none⟩ (.alt ⟨none, .store 2 (.tmp 4) (.tmp 13), none⟩ .done .stop) .stop) .stop) (.alt ⟨some 4, .new [(.int .i64 0), (.int .i64 0)], none⟩ (.alt ⟨some 3, .new [(.int .i64 0), (.int .i64 0)], none⟩ (.alt ⟨none, .store 2 (.tmp 3) (.tmp 10), none⟩ (.alt ⟨none, .store 2 (.tmp 4) (.tmp 13), none⟩ .done .stop) .stop) .stop) .stop)) (.alt ⟨some 3, .new [(.int .i64 0), (.int .i64 0)], none⟩ (.alt ⟨some 13, .load 2 true (.tmp 12), none⟩ (.alt ⟨some 4, .new [(.int .i64 0), (.int .i64 0)], none⟩ (.alt ⟨none, .store 2 (.tmp 3) (.tmp 10), none⟩ (.alt ⟨none, .store 2 (.tmp 4) (.tmp 13), none⟩ .done .stop) .stop) .stop) (.alt ⟨some 4, .new [(.int .i64 0), (.int .i64 0)], none⟩ (.alt ⟨some 13, .load 2 true (.tmp 12), none⟩ (.alt ⟨none, .store 2 (.tmp 3) (.tmp 10), none⟩ (.alt ⟨none, .store 2 (.tmp 4) (.tmp 13), none⟩ .done .stop) .stop) (.alt ⟨none, .store 2 (.tmp 3) (.tmp 10), none⟩ (.held ⟨some 13, .load 2 true (.tmp 12), none⟩ (.alt ⟨none, .store 2 (.tmp 4) (.tmp 13), none⟩ .done .stop)) .stop)) .stop)) (.alt ⟨some 4, .new [(.int .i64 0), (.int .i64 0)], none⟩ (.alt ⟨some 13, .load 2 true (.tmp 12), none⟩ (.alt ⟨some 3, .new [(.int .i64 0), (.int .i64 0)], none⟩ (.alt ⟨none, .store 2 (.tmp 3) (.tmp 10), none⟩ (.alt ⟨none, .store 2 (.tmp 4) (.tmp 13), none⟩ .done .stop) .stop) .stop) (.alt ⟨some 3, .new [(.int .i64 0), (.int .i64 0)], none⟩ (.alt ⟨some 13, .load 2 true (.tmp 12), none⟩ (.alt ⟨none, .store 2 (.tmp 3) (.tmp 10), none⟩ (.alt ⟨none, .store 2 (.tmp 4) (.tmp 13), none⟩ .done .stop) .stop) (.alt ⟨none, .store 2 (.tmp 3) (.tmp 10), none⟩ (.held ⟨some 13, .load 2 true (.tmp 12), none⟩ (.alt ⟨none, .store 2 (.tmp 4) (.tmp 13), none⟩ .done .stop)) .stop)) .stop)) .stop))))))))) (.seq (.seq (.ops [⟨some 14, .fadr 0 (.tmp 3), none⟩, ⟨some 15, .load 1 false (.tmp 14), none⟩, ⟨some 16, .bin .eql (.tmp 15) (.const (.int .i64 1)), none⟩, ⟨some 17, .mov (.tmp 16), none⟩, ⟨some 18, .fadr 0 (.tmp 4), some (17, true)⟩, ⟨some 19, .load 1 false (.tmp 18), some (17, true)⟩, ⟨some 20, .bin .eql (.tmp 19) (.const (.int .i64 0)), some (17, true)⟩, ⟨some 21, .pick (.tmp 17) (.tmp 20) (.const (.bool false)), none⟩, ⟨some 22, .mov (.tmp 21), none⟩, ⟨some 23, .fadr 1 (.tmp 4), some (22, true)⟩, ⟨some 24, .load 1 false (.tmp 23), some (22, true)⟩, ⟨some 25, .fadr 1 (.tmp 3), some (22, true)⟩, ⟨some 26, .load 1 false (.tmp 25), some (22, true)⟩, ⟨some 27, .bin .lss (.tmp 24) (.tmp 26), some (22, true)⟩, ⟨some 28, .pick (.tmp 22) (.tmp 27) (.const (.bool false)), none⟩]) (.cond (.tmp 28) (.seq (.ops [⟨some 2, .mov (.const (.bool true)), none⟩]) .ret) .skip)) (.seq (.ops [⟨some 29, .fadr 1 (.tmp 3), none⟩, ⟨some 30, .load 1 false (.tmp 29), none⟩, ⟨some 31, .fadr 1 (.tmp 4), none⟩, ⟨some 32, .load 1 false (.tmp 31), none⟩, ⟨some 33, .bin .eql (.tmp 30) (.tmp 32), none⟩, ⟨some 34, .mov (.tmp 33), none⟩, ⟨some 35, .fadr 0 (.tmp 3), some (34, true)⟩, ⟨some 36, .load 1 false (.tmp 35), some (34, true)⟩, ⟨some 37, .fadr 0 (.tmp 4), some (34, true)⟩, ⟨some 38, .load 1 false (.tmp 37), some (34, true)⟩, ⟨some 39, .bin .eql (.tmp 36) (.tmp 38), some (34, true)⟩, ⟨some 40, .mov (.tmp 39), some (34, true)⟩, ⟨some 41, .fadr 0 (.tmp 3), some (40, true)⟩, ⟨some 42, .load 1 false (.tmp 41), some (40, true)⟩, ⟨some 43, .bin .eql (.tmp 42) (.const (.int .i64 0)), some (40, true)⟩, ⟨some 44, .mov (.tmp 43), some (40, true)⟩, ⟨some 45, .fadr 0 (.tmp 3), some (44, false)⟩, ⟨some 46, .load 1 false (.tmp 45), some (44, false)⟩, ⟨some 47, .bin .eql (.tmp 46) (.const (.int .i64 3)), some (44, false)⟩, ⟨some 48, .pick (.tmp 44) (.const (.bool true)) (.tmp 47), some (40, true)⟩, ⟨some 49, .pick (.tmp 40) (.tmp 48) (.const (.bool false)), some (34, true)⟩, ⟨some 50, .mov (.tmp 49), some (34, true)⟩, ⟨some 51, .fadr 0 (.tmp 3), some (50, false)⟩, ⟨some 52, .load 1 false (.tmp 51), some (50, false)⟩, ⟨some 53, .bin .eql (.tmp 52) (.const (.int .i64 1)), some (50, false)⟩, ⟨some 54, .mov (.tmp 53), some (50, false)⟩, ⟨some 55, .fadr 0 (.tmp 4), some (54, true)⟩, ⟨some 56, .load 1 false (.tmp 55), some (54, true)⟩, ⟨some 57, .bin .eql (.tmp 56) (.const (.int .i64 2)), some (54, true)⟩, ⟨some 58, .pick (.tmp 54) (.tmp 57) (.const (.bool false)), some (50, false)⟩, ⟨some 59, .pick (.tmp 50) (.const (.bool true)) (.tmp 58), some (34, true)⟩, ⟨some 60, .pick (.tmp 34) (.tmp 59) (.const (.bool false)), none⟩, ⟨some 2, .mov (.tmp 60), none⟩]) .ret)))))
@[reducible] def rv33 : List RV := [.tmp 2]
theorem low33 : lowC Try.prog tau Try.f33.ntmps (Try.f33.body.getD .skip) = some (erase ic33) := by kernel_rfl
theorem res33 : lowR Try.prog Try.f33.results.toList = some rv33 := by kernel_rfl
theorem bod33 : Try.f33.body = some (Try.f33.body.getD .skip) := by kernel_rfl
theorem cal33 : callable Try.prog 33 = true := by kernel_rfl

end Go.Proofs.YtiakjdcognckpaaE

/-! The code of a function, in the engine's words. -/
namespace Go.Proofs.YtiakjdcognckpaaE
open Go Go.RowKit
@[reducible] def ic34 : IC := (.seq (.ops [⟨some 1, .box (.tmp 0), none⟩, ⟨some 2, .mov (.const (.bool false)), none⟩]) (.seq (.draw [⟨some 5, .fadr 0 (.tmp 1), none⟩, ⟨some 6, .iarr 2 2 (.tmp 5) (.const (.int .i64 0)), none⟩, ⟨some 7, .load 2 true (.tmp 6), none⟩, ⟨some 8, .fadr 0 (.tmp 1), none⟩, ⟨some 9, .iarr 2 2 (.tmp 8) (.const (.int .i64 1)), none⟩, ⟨some 10, .load 2 true (.tmp 9), none⟩, ⟨some 3, .new [(.int .i64 0), (.int .i64 0)], none⟩, ⟨some 4, .new [(.int .i64 0), (.int .i64 0)], none⟩, ⟨none, .store 2 (.tmp 3) (.tmp 7), none⟩, ⟨none, .store 2 (.tmp 4) (.tmp 10), none⟩] (.held ⟨some 5, .fadr 0 (.tmp 1), none⟩ (.held ⟨some 6, .iarr 2 2 (.tmp 5) (.const (.int .i64 0)), none⟩ (.held ⟨some 7, .load 2 true (.tmp 6), none⟩ (.held ⟨some 8, .fadr 0 (.tmp 1), none⟩ (.held ⟨some 9, .iarr 2 2 (.tmp 8) (.const (.int .i64 1)), none⟩ (.alt ⟨some 10, .load 2 true (.tmp 9), none⟩ (.alt ⟨some 3, .new [(.int .i64 0), (.int .i64 0)], none⟩ (.alt ⟨some 4, .new [(.int .i64 0), (.int .i64 0)], none⟩ (.alt ⟨none, .store 2 (.tmp 3) (.tmp 7), none⟩ (.alt ⟨none, .store 2 (.tmp 4) (.tmp 10), none⟩ .done .stop) .stop) .stop) (.alt ⟨some 4, .new [(.int .i64 0), (.int .i64 0)], none⟩ (.alt ⟨some 3, .new [(.int .i64 0), (.int .i64 0)], none⟩ (.alt ⟨none, .store 2 (.tmp 3) (.tmp 7), none⟩ (.alt ⟨none, .store 2 (.tmp 4) (.tmp 10), none⟩ .done .stop) .stop) .stop) .stop)) (.alt ⟨some 3, .new [(.int .i64 0), (.int .i64 0)], none⟩ (.alt ⟨some 10, .load 2 true (.tmp 9), none⟩ (.alt ⟨some 4, .new [(.int .i64 0), (.int .i64 0)], none⟩ (.alt ⟨none, .store 2 (.tmp 3) (.tmp 7), none⟩ (.alt ⟨none, .store 2 (.tmp 4) (.tmp 10), none⟩ .done .stop) .stop) .stop) (.alt ⟨some 4, .new [(.int .i64 0), (.int .i64 0)], none⟩ (.alt ⟨some 10, .load 2 true (.tmp 9), none⟩ (.alt ⟨none, .store 2 (.tmp 3) (.tmp 7), none⟩ (.alt ⟨none, .store 2 (.tmp 4) (.tmp 10), none⟩ .done .stop) .stop) (.alt ⟨none, .store 2 (.tmp 3) (.tmp 7), none⟩ (.held ⟨some 10, .load 2 true (.tmp 9), none⟩ (.alt ⟨none, .store 2 (.tmp 4) (.tmp 10), none⟩ .done .stop)) .stop)) .stop)) (.alt ⟨some 4, .new [(.int .i64 0), (.int .i64 0)], none⟩ (.alt ⟨some 10, .load 2 true (.tmp 9), none⟩ (.alt ⟨some 3, .new [(.int .i64 0), (.int .i64 0)], none⟩ (.alt ⟨none, .store 2 (.tmp 3) (.tmp 7), none⟩ (.alt ⟨none, .store 2 (.tmp 4) (.tmp 10), none⟩ .done .stop) .stop) .stop) (.alt ⟨some 3, .new [(.int .i64 0), (.int .i64 0)], none⟩ (.alt ⟨some 10, .load 2 true (.tmp 9), none⟩ (.alt ⟨none, .store 2 (.tmp 3) (.tmp 7), none⟩ (.alt ⟨none, .store 2 (.tmp 4) (.tmp 10), none⟩ .done .stop) .stop) (.alt ⟨none, .store 2 (.tmp 3) (.tmp 7), none⟩ (.held ⟨some 10, .load 2 true (.tmp 9), none⟩ (.alt ⟨none, .store 2 (.tmp 4) (.tmp 10), none⟩ .done .stop)) .stop)) .stop)) .stop))))))))) (.seq (.seq (.ops [⟨some 11, .load 5 true (.tmp 1), none⟩, ⟨some 12, .call 32 [(.tmp 11)], none⟩, ⟨some 13, .una .not (.tmp 12), none⟩]) (.cond (.tmp 13) (.seq (.ops [⟨some 2, .mov (.const (.bool false)), none⟩]) .ret) .skip)) (.seq (.seq (.ops [⟨some 14, .fadr 0 (.tmp 3), none⟩, ⟨some 15, .load 1 false (.tmp 14), none⟩, ⟨some 16, .bin .eql (.tmp 15) (.const (.int .i64 1)), none⟩, ⟨some 17, .mov (.tmp 16), none⟩, ⟨some 18, .fadr 0 (.tmp 4), some (17, true)⟩, ⟨some 19, .load 1 false (.tmp 18), some (17, true)⟩, ⟨some 20, .bin .eql (.tmp 19) (.const (.int .i64 0)), some (17, true)⟩, ⟨some 21, .pick (.tmp 17) (.tmp 20) (.const (.bool false)), none⟩]) (.cond (.tmp 21) (.seq (.ops [⟨some 22, .fadr 1 (.tmp 4), none⟩, ⟨some 23, .load 1 false (.tmp 22), none⟩, ⟨some 24, .fadr 1 (.tmp 3), none⟩, ⟨some 25, .load 1 false (.tmp 24), none⟩, ⟨some 26, .bin .lss (.tmp 23) (.tmp 25), none⟩, ⟨some 2, .mov (.tmp 26), none⟩]) .ret) .skip)) (.seq (.seq (.ops [⟨some 27, .fadr 1 (.tmp 3), none⟩, ⟨some 28, .load 1 false (.tmp 27), none⟩, ⟨some 29, .fadr 1 (.tmp 4), none⟩, ⟨some 30, .load 1 false (.tmp 29), none⟩, ⟨some 31, .bin .neq (.tmp 28) (.tmp 30), none⟩]) (.cond (.tmp 31) (.seq (.ops [⟨some 2, .mov (.const (.bool false)), none⟩]) .ret) .skip)) (.seq (.ops [⟨some 32, .fadr 0 (.tmp 3), none⟩, ⟨some 33, .load 1 false (.tmp 32), none⟩, ⟨some 34, .bin .eql (.tmp 33) (.const (.int .i64 0)), none⟩, ⟨some 35, .mov (.tmp 34), none⟩, ⟨some 36, .fadr 0 (.tmp 4), some (35, true)⟩, ⟨some 37, .load 1 false (.tmp 36), some (35, true)⟩, ⟨some 38, .bin .eql (.tmp 37) (.const (.int .i64 0)), some (35, true)⟩, ⟨some 39, .pick (.tmp 35) (.tmp 38) (.const (.bool false)), none⟩, ⟨some 40, .mov (.tmp 39), none⟩, ⟨some 41, .fadr 0 (.tmp 3), some (40, false)⟩, ⟨some 42, .load 1 false (.tmp 41), some (40, false)⟩, ⟨some 43, .bin .eql (.tmp 42) (.const (.int .i64 3)), some (40, false)⟩, ⟨some 44, .mov (.tmp 43), some (40, false)⟩, ⟨some 45, .fadr 0 (.tmp 4), some (44, true)⟩, ⟨some 46, .load 1 false (.tmp 45), some (44, true)⟩, ⟨some 47, .bin .eql (.tmp 46) (.const (.int .i64 3)), some (44, true)⟩, ⟨some 48, .pick (.tmp 44) (.tmp 47) (.const (.bool false)), some (40, false)⟩, ⟨some 49, .pick (.tmp 40) (.const (.bool true)) (.tmp 48), none⟩, ⟨some 50, .mov (.tmp 49), none⟩, ⟨some 51, .fadr 0 (.tmp 3), some (50, false)⟩, ⟨some 52, .load 1 false (.tmp 51), some (50, false)⟩, ⟨some 53, .bin .eql (.tmp 52) (.const (.int .i64 1)), some (50, false)⟩, ⟨some 54, .mov (.tmp 53), some (50, false)⟩, ⟨some 55, .fadr 0 (.tmp 4), some (54, true)⟩, ⟨some 56, .load 1 false (.tmp 55), some (54, true)⟩, ⟨some 57, .bin .eql (.tmp 56) (.const (.int .i64 2)), some (54, true)⟩, ⟨some 58, .pick (.tmp 54) (.tmp 57) (.const (.bool false)), some (50, false)⟩, ⟨some 59, .pick (.tmp 50) (.const (.bool true)) (.tmp 58), none⟩, ⟨some 2, .mov (.tmp 59), none⟩]) .ret))))))
@[reducible] def rv34 : List RV := [.tmp 2]
theorem low34 : lowC Try.prog tau Try.f34.ntmps (Try.f34.body.getD .skip) = some (erase ic34) := by kernel_rfl
theorem res34 : lowR Try.prog Try.f34.results.toList = some rv34 := by kernel_rfl
theorem bod34 : Try.f34.body = some (Try.f34.body.getD .skip) := by kernel_rfl
theorem cal34 : callable Try.prog 34 = true := by kernel_rfl

end Go.Proofs.YtiakjdcognckpaaE

/-! Agree; DoEvent of a Duo of which the way is nil. -/
namespace Go.Proofs.YtiakjdcognckpaaE
open Go Go.RowKit
set_option linter.unusedSimpArgs false
set_option linter.unusedVariables false
set_option maxRecDepth 20000
set_option maxHeartbeats 4000000

def spAgree : Spec := ⟨fun _ _ => [], fun args objs K => match args, objs with
  | [.agg [.v (.int .i64 a), .v (.int .i64 x), .v (.int .i64 b), .v (.int .i64 y), .rs .sig q]], [] => (q.length ≤ 1099511627776 ∧ duOk ⟨a, x, b, y, q⟩ = true ∧ agr ⟨a, x, b, y, q⟩) ∧ K (.v (.bool true)) [] 0
  | _, _ => False, false⟩
theorem spAgree_t {L : Hp} {a : List AVal} : Spec.take spAgree L a = [] := id rfl
theorem spAgree_k : Spec.keep spAgree = false := id rfl
theorem spAgree_f {a} {x} {b} {y} {q} {K : AVal → Hp → Nat → Prop} : Spec.f spAgree ([.agg [.v (.int .i64 a), .v (.int .i64 x), .v (.int .i64 b), .v (.int .i64 y), .rs .sig q]]) ([]) K = ((q.length ≤ 1099511627776 ∧ duOk ⟨a, x, b, y, q⟩ = true ∧ agr ⟨a, x, b, y, q⟩) ∧ K (.v (.bool true)) [] 0) := id rfl
theorem valid33 : Valid Try.prog 33 spAgree := by
  refine validI (Γ := lk [(48, spDuOk)]) Try.func33 bod33 low33 res33 (good_of ⟨⟨cal48, valid48⟩, trivial⟩) ?_
  intro E args objs K h hE hG hP
  simp only [spAgree] at h
  split at h
  · refine ⟨by simp [Try.ntmps33], ?_⟩
    rename_i a x b y q
    obtain ⟨⟨b1, hd, hA⟩, h⟩ := h
    unfold agr at hA
    dsimp only at hA
    rcases hA with ⟨rfl, ⟨rfl, rfl⟩ | ⟨rfl, rfl⟩ | ⟨rfl, rfl⟩⟩ | ⟨rfl, rfl, hlt⟩
    · simp (config := { maxSteps := 2000000 }) only [go_sem, hG, hP, Nat.reduceEqDiff, ↓reduceIte, reduceCtorEq, Nat.reduceAdd, Nat.reduceSub, Nat.reduceMul, Nat.reduceLT, Nat.reduceLeDiff, Int.reduceAdd, Int.reduceSub, Int.reduceMul, Int.reduceLT, Int.reduceLE, Int.reduceEq, Int.reduceNeg, Int.reduceNe, Int.reduceGE, Int.reduceGT, Nat.reduceBEq, Int.reduceToNat,  spDuOk_f, spDuOk_t, spDuOk_k, hd]
      repeat' (first | (refine And.intro ?_ ?_) | (with_reducible intro _))
      all_goals first | omega | (refine ⟨_, _, _, ?_, h⟩; simp (config := { maxSteps := 2000000 }) only [go_sem, hG, hP, Nat.reduceEqDiff, ↓reduceIte, reduceCtorEq, Nat.reduceAdd, Nat.reduceSub, Nat.reduceMul, Nat.reduceLT, Nat.reduceLeDiff, Int.reduceAdd, Int.reduceSub, Int.reduceMul, Int.reduceLT, Int.reduceLE, Int.reduceEq, Int.reduceNeg, Int.reduceNe, Int.reduceGE, Int.reduceGT, Nat.reduceBEq, Int.reduceToNat]; all_goals (first | (simp; done) | omega))
    · simp (config := { maxSteps := 2000000 }) only [go_sem, hG, hP, Nat.reduceEqDiff, ↓reduceIte, reduceCtorEq, Nat.reduceAdd, Nat.reduceSub, Nat.reduceMul, Nat.reduceLT, Nat.reduceLeDiff, Int.reduceAdd, Int.reduceSub, Int.reduceMul, Int.reduceLT, Int.reduceLE, Int.reduceEq, Int.reduceNeg, Int.reduceNe, Int.reduceGE, Int.reduceGT, Nat.reduceBEq, Int.reduceToNat,  spDuOk_f, spDuOk_t, spDuOk_k, hd]
      repeat' (first | (refine And.intro ?_ ?_) | (with_reducible intro _))
      all_goals first | omega | (refine ⟨_, _, _, ?_, h⟩; simp (config := { maxSteps := 2000000 }) only [go_sem, hG, hP, Nat.reduceEqDiff, ↓reduceIte, reduceCtorEq, Nat.reduceAdd, Nat.reduceSub, Nat.reduceMul, Nat.reduceLT, Nat.reduceLeDiff, Int.reduceAdd, Int.reduceSub, Int.reduceMul, Int.reduceLT, Int.reduceLE, Int.reduceEq, Int.reduceNeg, Int.reduceNe, Int.reduceGE, Int.reduceGT, Nat.reduceBEq, Int.reduceToNat]; all_goals (first | (simp; done) | omega))
    · simp (config := { maxSteps := 2000000 }) only [go_sem, hG, hP, Nat.reduceEqDiff, ↓reduceIte, reduceCtorEq, Nat.reduceAdd, Nat.reduceSub, Nat.reduceMul, Nat.reduceLT, Nat.reduceLeDiff, Int.reduceAdd, Int.reduceSub, Int.reduceMul, Int.reduceLT, Int.reduceLE, Int.reduceEq, Int.reduceNeg, Int.reduceNe, Int.reduceGE, Int.reduceGT, Nat.reduceBEq, Int.reduceToNat,  spDuOk_f, spDuOk_t, spDuOk_k, hd]
      repeat' (first | (refine And.intro ?_ ?_) | (with_reducible intro _))
      all_goals first | omega | (refine ⟨_, _, _, ?_, h⟩; simp (config := { maxSteps := 2000000 }) only [go_sem, hG, hP, Nat.reduceEqDiff, ↓reduceIte, reduceCtorEq, Nat.reduceAdd, Nat.reduceSub, Nat.reduceMul, Nat.reduceLT, Nat.reduceLeDiff, Int.reduceAdd, Int.reduceSub, Int.reduceMul, Int.reduceLT, Int.reduceLE, Int.reduceEq, Int.reduceNeg, Int.reduceNe, Int.reduceGE, Int.reduceGT, Nat.reduceBEq, Int.reduceToNat]; all_goals (first | (simp; done) | omega))
    · have hlte := eq_true hlt
      simp (config := { maxSteps := 2000000 }) only [go_sem, hG, hP, Nat.reduceEqDiff, ↓reduceIte, reduceCtorEq, Nat.reduceAdd, Nat.reduceSub, Nat.reduceMul, Nat.reduceLT, Nat.reduceLeDiff, Int.reduceAdd, Int.reduceSub, Int.reduceMul, Int.reduceLT, Int.reduceLE, Int.reduceEq, Int.reduceNeg, Int.reduceNe, Int.reduceGE, Int.reduceGT, Nat.reduceBEq, Int.reduceToNat,  spDuOk_f, spDuOk_t, spDuOk_k, hd, hlte]
      repeat' (first | (refine And.intro ?_ ?_) | (with_reducible intro _))
      all_goals first | omega | (refine ⟨_, _, _, ?_, h⟩; simp (config := { maxSteps := 2000000 }) only [go_sem, hG, hP, Nat.reduceEqDiff, ↓reduceIte, reduceCtorEq, Nat.reduceAdd, Nat.reduceSub, Nat.reduceMul, Nat.reduceLT, Nat.reduceLeDiff, Int.reduceAdd, Int.reduceSub, Int.reduceMul, Int.reduceLT, Int.reduceLE, Int.reduceEq, Int.reduceNeg, Int.reduceNe, Int.reduceGE, Int.reduceGT, Nat.reduceBEq, Int.reduceToNat]; all_goals (first | (simp; done) | omega))
  · exact h.elim
theorem valid34 : Valid Try.prog 34 spAgree := by
  refine validI (Γ := lk [(32, spDuOk)]) Try.func34 bod34 low34 res34 (good_of ⟨⟨cal32, valid32⟩, trivial⟩) ?_
  intro E args objs K h hE hG hP
  simp only [spAgree] at h
  split at h
  · refine ⟨by simp [Try.ntmps34], ?_⟩
    rename_i a x b y q
    obtain ⟨⟨b1, hd, hA⟩, h⟩ := h
    unfold agr at hA
    dsimp only at hA
    rcases hA with ⟨rfl, ⟨rfl, rfl⟩ | ⟨rfl, rfl⟩ | ⟨rfl, rfl⟩⟩ | ⟨rfl, rfl, hlt⟩
    · simp (config := { maxSteps := 2000000 }) only [go_sem, hG, hP, Nat.reduceEqDiff, ↓reduceIte, reduceCtorEq, Nat.reduceAdd, Nat.reduceSub, Nat.reduceMul, Nat.reduceLT, Nat.reduceLeDiff, Int.reduceAdd, Int.reduceSub, Int.reduceMul, Int.reduceLT, Int.reduceLE, Int.reduceEq, Int.reduceNeg, Int.reduceNe, Int.reduceGE, Int.reduceGT, Nat.reduceBEq, Int.reduceToNat,  spDuOk_f, spDuOk_t, spDuOk_k, hd]
      repeat' (first | (refine And.intro ?_ ?_) | (with_reducible intro _))
      all_goals first | omega | (refine ⟨_, _, _, ?_, h⟩; simp (config := { maxSteps := 2000000 }) only [go_sem, hG, hP, Nat.reduceEqDiff, ↓reduceIte, reduceCtorEq, Nat.reduceAdd, Nat.reduceSub, Nat.reduceMul, Nat.reduceLT, Nat.reduceLeDiff, Int.reduceAdd, Int.reduceSub, Int.reduceMul, Int.reduceLT, Int.reduceLE, Int.reduceEq, Int.reduceNeg, Int.reduceNe, Int.reduceGE, Int.reduceGT, Nat.reduceBEq, Int.reduceToNat]; all_goals (first | (simp; done) | omega))
    · simp (config := { maxSteps := 2000000 }) only [go_sem, hG, hP, Nat.reduceEqDiff, ↓reduceIte, reduceCtorEq, Nat.reduceAdd, Nat.reduceSub, Nat.reduceMul, Nat.reduceLT, Nat.reduceLeDiff, Int.reduceAdd, Int.reduceSub, Int.reduceMul, Int.reduceLT, Int.reduceLE, Int.reduceEq, Int.reduceNeg, Int.reduceNe, Int.reduceGE, Int.reduceGT, Nat.reduceBEq, Int.reduceToNat,  spDuOk_f, spDuOk_t, spDuOk_k, hd]
      repeat' (first | (refine And.intro ?_ ?_) | (with_reducible intro _))
      all_goals first | omega | (refine ⟨_, _, _, ?_, h⟩; simp (config := { maxSteps := 2000000 }) only [go_sem, hG, hP, Nat.reduceEqDiff, ↓reduceIte, reduceCtorEq, Nat.reduceAdd, Nat.reduceSub, Nat.reduceMul, Nat.reduceLT, Nat.reduceLeDiff, Int.reduceAdd, Int.reduceSub, Int.reduceMul, Int.reduceLT, Int.reduceLE, Int.reduceEq, Int.reduceNeg, Int.reduceNe, Int.reduceGE, Int.reduceGT, Nat.reduceBEq, Int.reduceToNat]; all_goals (first | (simp; done) | omega))
    · simp (config := { maxSteps := 2000000 }) only [go_sem, hG, hP, Nat.reduceEqDiff, ↓reduceIte, reduceCtorEq, Nat.reduceAdd, Nat.reduceSub, Nat.reduceMul, Nat.reduceLT, Nat.reduceLeDiff, Int.reduceAdd, Int.reduceSub, Int.reduceMul, Int.reduceLT, Int.reduceLE, Int.reduceEq, Int.reduceNeg, Int.reduceNe, Int.reduceGE, Int.reduceGT, Nat.reduceBEq, Int.reduceToNat,  spDuOk_f, spDuOk_t, spDuOk_k, hd]
      repeat' (first | (refine And.intro ?_ ?_) | (with_reducible intro _))
      all_goals first | omega | (refine ⟨_, _, _, ?_, h⟩; simp (config := { maxSteps := 2000000 }) only [go_sem, hG, hP, Nat.reduceEqDiff, ↓reduceIte, reduceCtorEq, Nat.reduceAdd, Nat.reduceSub, Nat.reduceMul, Nat.reduceLT, Nat.reduceLeDiff, Int.reduceAdd, Int.reduceSub, Int.reduceMul, Int.reduceLT, Int.reduceLE, Int.reduceEq, Int.reduceNeg, Int.reduceNe, Int.reduceGE, Int.reduceGT, Nat.reduceBEq, Int.reduceToNat]; all_goals (first | (simp; done) | omega))
    · have hlte := eq_true hlt
      simp (config := { maxSteps := 2000000 }) only [go_sem, hG, hP, Nat.reduceEqDiff, ↓reduceIte, reduceCtorEq, Nat.reduceAdd, Nat.reduceSub, Nat.reduceMul, Nat.reduceLT, Nat.reduceLeDiff, Int.reduceAdd, Int.reduceSub, Int.reduceMul, Int.reduceLT, Int.reduceLE, Int.reduceEq, Int.reduceNeg, Int.reduceNe, Int.reduceGE, Int.reduceGT, Nat.reduceBEq, Int.reduceToNat,  spDuOk_f, spDuOk_t, spDuOk_k, hd, hlte]
      repeat' (first | (refine And.intro ?_ ?_) | (with_reducible intro _))
      all_goals first | omega | (refine ⟨_, _, _, ?_, h⟩; simp (config := { maxSteps := 2000000 }) only [go_sem, hG, hP, Nat.reduceEqDiff, ↓reduceIte, reduceCtorEq, Nat.reduceAdd, Nat.reduceSub, Nat.reduceMul, Nat.reduceLT, Nat.reduceLeDiff, Int.reduceAdd, Int.reduceSub, Int.reduceMul, Int.reduceLT, Int.reduceLE, Int.reduceEq, Int.reduceNeg, Int.reduceNe, Int.reduceGE, Int.reduceGT, Nat.reduceBEq, Int.reduceToNat]; all_goals (first | (simp; done) | omega))
  · exact h.elim
def spDoEvU : Spec := ⟨fun _ _ => [], fun args objs K => match args, objs with
  | [.agg [.v (.int .i64 a), .v (.int .i64 x), .v (.int .i64 b), .v (.int .i64 y), w], .agg [.v (.int .i64 k), .v (.int .i64 p)]], [] =>
      rowsK .sig [] w fun q => q.length ≤ 1099511627776 ∧ K (.tup [duA (doEv ⟨a, x, b, y, q⟩ k p).1, .v (.bool (doEv ⟨a, x, b, y, q⟩ k p).2)]) (duL (doEv ⟨a, x, b, y, q⟩ k p).1) 1
  | _, _ => False, false⟩
theorem spDoEvU_t {L : Hp} {a : List AVal} : Spec.take spDoEvU L a = [] := id rfl
theorem spDoEvU_k : Spec.keep spDoEvU = false := id rfl
theorem spDoEvU_f {a} {x} {b} {y} {w} {k} {p} {K : AVal → Hp → Nat → Prop} : Spec.f spDoEvU ([.agg [.v (.int .i64 a), .v (.int .i64 x), .v (.int .i64 b), .v (.int .i64 y), w], .agg [.v (.int .i64 k), .v (.int .i64 p)]]) ([]) K = (rowsK .sig [] w fun q => q.length ≤ 1099511627776 ∧ K (.tup [duA (doEv ⟨a, x, b, y, q⟩ k p).1, .v (.bool (doEv ⟨a, x, b, y, q⟩ k p).2)]) (duL (doEv ⟨a, x, b, y, q⟩ k p).1) 1) := id rfl
theorem den_nil {W : World} {C : CR} {ρ : Nm} {t : Ty} {v : Value} (h : Den W C ρ (.v (.slice none 0 0)) v) : Den W C ρ (.rs t []) v := by
  rw [den_v h]
  exact .rs (t := t) (xs := []) (A := none) (c := 0) (fun _ => undef) (.inl (by simp)) (Nat.le_refl _) (fun i f x av h => by simp at h)
theorem den_nil5 {W : World} {C : CR} {ρ : Nm} {t : Ty} {a x b y : AVal} {v : Value} (h : Den W C ρ (.agg [a, x, b, y, .v (.slice none 0 0)]) v) : Den W C ρ (.agg [a, x, b, y, .rs t []]) v := by
  cases h with
  | agg vs h1 h2 =>
    obtain ⟨v0, r0, rfl, d0, e0⟩ := DenL.cons_inv ⟨h1, h2⟩
    obtain ⟨v1, r1, rfl, d1, e1⟩ := e0.cons_inv
    obtain ⟨v2, r2, rfl, d2, e2⟩ := e1.cons_inv
    obtain ⟨v3, r3, rfl, d3, e3⟩ := e2.cons_inv
    obtain ⟨v4, r4, rfl, d4, e4⟩ := e3.cons_inv
    have key := DenL.cons d0 (DenL.cons d1 (DenL.cons d2 (DenL.cons d3 (DenL.cons (den_nil (t := t) d4) e4))))
    exact .agg _ key.1 key.2
theorem toU {f : Nat} (hv : Valid Try.prog f spDoEv) : Valid Try.prog f spDoEvU := by
  intro W C ρ args vals objs K hd hp h
  simp only [spDoEvU] at h
  split at h
  · rename_i a x b y w k p
    unfold rowsK at h
    split at h
    · rename_i t' xs
      obtain rfl := castK_eq h
      have h := castK_same h
      exact hv W C ρ _ vals _ K hd hp h
    · simp [lk] at h
    · obtain ⟨v0, r0, rfl, d0, e0⟩ := hd.cons_inv
      exact hv W C ρ _ _ _ K (DenL.cons (den_nil5 (t := .sig) d0) e0) hp h
    · exact h.elim
  · exact h.elim
theorem valid23U : Valid Try.prog 23 spDoEvU := toU valid23
theorem valid21U : Valid Try.prog 21 spDoEvU := toU valid21
theorem doEv_first : doEv ⟨0, 0, 0, 0, []⟩ 1 0 = (⟨1, 1, 0, 0, [⟨1, 1, 1⟩]⟩, true) := by
  have h1 : duOk ⟨0, 0, 0, 0, []⟩ = true := by decide
  have h2 : evOk ⟨0, 0, 0, 0, []⟩ 1 0 = true := by decide
  have h3 : evD ⟨0, 0, 0, 0, []⟩ 1 0 = ⟨1, 1, 0, 0, [⟨1, 1, 1⟩]⟩ := by unfold evD; rw [h2, if_neg (by simp), if_pos rfl]; rfl
  rw [doEv_yes h1 h2 (by rw [h3]; decide), h3]
end Go.Proofs.YtiakjdcognckpaaE

/-! The code of a function, in the engine's words. -/
namespace Go.Proofs.YtiakjdcognckpaaE
open Go Go.RowKit
@[reducible] def ic7 : IC := (.seq (.ops [⟨some 2, .mov (.const (.bool false)), none⟩]) (.seq (.seq (.ops [⟨some 13, .mov (.tmp 0), none⟩, ⟨some 14, .call 30 [(.tmp 13)], none⟩]) (.cond (.tmp 14) (.seq (.ops [⟨some 2, .mov (.const (.bool true)), none⟩]) .ret) .skip)) (.seq (.ops [⟨some 15, .mov (.tmp 0), none⟩, ⟨some 16, .call 31 [(.tmp 15)], none⟩, ⟨some 3, .mov (.tmp 16), none⟩]) (.seq (.ops [⟨some 17, .bld [(.int .i64 0), (.int .i64 0), (.int .i64 0), (.int .i64 0), (.slice none 0 0)] [], none⟩, ⟨some 4, .new [(.int .i64 0), (.int .i64 0), (.int .i64 0), (.int .i64 0), (.slice none 0 0)], none⟩, ⟨none, .store 5 (.tmp 4) (.tmp 17), none⟩]) (.seq (.seq (.ops [⟨some 5, .mov (.const (.int .i64 0)), none⟩]) (.block 0 (.loop (.seq (.seq (.ops [⟨some 18, .mov (.tmp 5), none⟩, ⟨some 19, .mov (.tmp 3), none⟩, ⟨some 20, .len (.tmp 19), none⟩, ⟨some 21, .bin .lss (.tmp 18) (.tmp 20), none⟩]) (.cond (.tmp 21) .skip (.exit 0))) (.seq (.block 1 (.seq (.draw [⟨some 25, .load 5 true (.tmp 4), none⟩, ⟨some 26, .mov (.tmp 3), none⟩, ⟨some 27, .mov (.tmp 5), none⟩, ⟨some 28, .iadr 2 (.tmp 26) (.tmp 27), none⟩, ⟨some 29, .load 2 true (.tmp 28), none⟩, ⟨some 30, .call 23 [(.tmp 25), (.tmp 29)], none⟩, ⟨some 24, .mov (.tmp 30), none⟩, ⟨some 31, .ext (.tmp 24) 0, none⟩, ⟨some 32, .ext (.tmp 24) 1, none⟩, ⟨some 6, .new [(.int .i64 0), (.int .i64 0), (.int .i64 0), (.int .i64 0), (.slice none 0 0)], none⟩, ⟨none, .store 5 (.tmp 6) (.tmp 31), none⟩, ⟨some 7, .mov (.tmp 32), none⟩] (.held ⟨some 25, .load 5 true (.tmp 4), none⟩ (.held ⟨some 26, .mov (.tmp 3), none⟩ (.held ⟨some 27, .mov (.tmp 5), none⟩ (.held ⟨some 28, .iadr 2 (.tmp 26) (.tmp 27), none⟩ (.held ⟨some 29, .load 2 true (.tmp 28), none⟩ (.alt ⟨some 30, .call 23 [(.tmp 25), (.tmp 29)], none⟩ (.held ⟨some 24, .mov (.tmp 30), none⟩ (.held ⟨some 31, .ext (.tmp 24) 0, none⟩ (.held ⟨some 32, .ext (.tmp 24) 1, none⟩ (.alt ⟨some 6, .new [(.int .i64 0), (.int .i64 0), (.int .i64 0), (.int .i64 0), (.slice none 0 0)], none⟩ (.alt ⟨none, .store 5 (.tmp 6) (.tmp 31), none⟩ (.held ⟨some 7, .mov (.tmp 32), none⟩ .done) .stop) .stop)))) (.alt ⟨some 6, .new [(.int .i64 0), (.int .i64 0), (.int .i64 0), (.int .i64 0), (.slice none 0 0)], none⟩ (.alt ⟨some 30, .call 23 [(.tmp 25), (.tmp 29)], none⟩ (.held ⟨some 24, .mov (.tmp 30), none⟩ (.held ⟨some 31, .ext (.tmp 24) 0, none⟩ (.held ⟨some 32, .ext (.tmp 24) 1, none⟩ (.alt ⟨none, .store 5 (.tmp 6) (.tmp 31), none⟩ (.held ⟨some 7, .mov (.tmp 32), none⟩ .done) .stop)))) .stop) .stop)))))))) (.seq (.draw [⟨some 34, .load 5 true (.tmp 4), none⟩, ⟨some 35, .mov (.tmp 3), none⟩, ⟨some 36, .mov (.tmp 5), none⟩, ⟨some 37, .iadr 2 (.tmp 35) (.tmp 36), none⟩, ⟨some 38, .load 2 true (.tmp 37), none⟩, ⟨some 39, .call 21 [(.tmp 34), (.tmp 38)], none⟩, ⟨some 33, .mov (.tmp 39), none⟩, ⟨some 40, .ext (.tmp 33) 0, none⟩, ⟨some 41, .ext (.tmp 33) 1, none⟩, ⟨some 8, .new [(.int .i64 0), (.int .i64 0), (.int .i64 0), (.int .i64 0), (.slice none 0 0)], none⟩, ⟨none, .store 5 (.tmp 8) (.tmp 40), none⟩, ⟨some 9, .mov (.tmp 41), none⟩] (.held ⟨some 34, .load 5 true (.tmp 4), none⟩ (.held ⟨some 35, .mov (.tmp 3), none⟩ (.held ⟨some 36, .mov (.tmp 5), none⟩ (.held ⟨some 37, .iadr 2 (.tmp 35) (.tmp 36), none⟩ (.held ⟨some 38, .load 2 true (.tmp 37), none⟩ (.alt ⟨some 39, .call 21 [(.tmp 34), (.tmp 38)], none⟩ (.held ⟨some 33, .mov (.tmp 39), none⟩ (.held ⟨some 40, .ext (.tmp 33) 0, none⟩ (.held ⟨some 41, .ext (.tmp 33) 1, none⟩ (.alt ⟨some 8, .new [(.int .i64 0), (.int .i64 0), (.int .i64 0), (.int .i64 0), (.slice none 0 0)], none⟩ (.alt ⟨none, .store 5 (.tmp 8) (.tmp 40), none⟩ (.held ⟨some 9, .mov (.tmp 41), none⟩ .done) .stop) .stop)))) (.alt ⟨some 8, .new [(.int .i64 0), (.int .i64 0), (.int .i64 0), (.int .i64 0), (.slice none 0 0)], none⟩ (.alt ⟨some 39, .call 21 [(.tmp 34), (.tmp 38)], none⟩ (.held ⟨some 33, .mov (.tmp 39), none⟩ (.held ⟨some 40, .ext (.tmp 33) 0, none⟩ (.held ⟨some 41, .ext (.tmp 33) 1, none⟩ (.alt ⟨none, .store 5 (.tmp 8) (.tmp 40), none⟩ (.held ⟨some 9, .mov (.tmp 41), none⟩ .done) .stop)))) .stop) .stop)))))))) (.seq (.seq (.ops [⟨some 42, .mov (.tmp 7), none⟩, ⟨some 43, .mov (.tmp 9), none⟩, ⟨some 44, .beq true (.tmp 42) (.tmp 43), none⟩, ⟨some 45, .mov (.tmp 44), none⟩, ⟨some 46, .fadr 0 (.tmp 6), some (45, false)⟩, ⟨some 47, .load 4 true (.tmp 46), some (45, false)⟩, ⟨some 48, .fadr 0 (.tmp 8), some (45, false)⟩, ⟨some 49, .load 4 true (.tmp 48), some (45, false)⟩, ⟨some 50, .heq true (.tmp 47) (.tmp 49), some (45, false)⟩, ⟨some 51, .pick (.tmp 45) (.const (.bool true)) (.tmp 50), none⟩, ⟨some 52, .mov (.tmp 51), none⟩, ⟨some 53, .fadr 4 (.tmp 6), some (52, false)⟩, ⟨some 54, .load 1 false (.tmp 53), some (52, false)⟩, ⟨some 55, .len (.tmp 54), some (52, false)⟩, ⟨some 56, .fadr 4 (.tmp 8), some (52, false)⟩, ⟨some 57, .load 1 false (.tmp 56), some (52, false)⟩, ⟨some 58, .len (.tmp 57), some (52, false)⟩, ⟨some 59, .bin .neq (.tmp 55) (.tmp 58), some (52, false)⟩, ⟨some 60, .pick (.tmp 52) (.const (.bool true)) (.tmp 59), none⟩, ⟨some 61, .mov (.tmp 60), none⟩, ⟨some 62, .load 5 true (.tmp 6), some (61, false)⟩, ⟨some 63, .call 32 [(.tmp 62)], some (61, false)⟩, ⟨some 64, .una .not (.tmp 63), some (61, false)⟩, ⟨some 65, .pick (.tmp 61) (.const (.bool true)) (.tmp 64), none⟩]) (.cond (.tmp 65) (.seq (.ops [⟨some 2, .mov (.const (.bool false)), none⟩]) .ret) .skip)) (.ops [⟨some 66, .load 5 true (.tmp 6), none⟩, ⟨none, .store 5 (.tmp 4) (.tmp 66), none⟩]))))) (.ops [⟨some 22, .mov (.tmp 5), none⟩, ⟨some 23, .bin .add (.tmp 22) (.const (.int .i64 1)), none⟩, ⟨some 5, .mov (.tmp 23), none⟩])))))) (.seq (.ops [⟨some 67, .load 5 true (.tmp 4), none⟩, ⟨some 68, .call 17 [(.tmp 67), (.const (.int .i64 3))], none⟩, ⟨some 10, .new [(.int .i64 0), (.int .i64 0), (.int .i64 0), (.int .i64 0), (.slice none 0 0)], none⟩, ⟨none, .store 5 (.tmp 10) (.tmp 68), none⟩]) (.seq (.ops [⟨some 70, .bld [(.int .i64 0), (.int .i64 0), (.int .i64 0), (.int .i64 0), (.slice none 0 0)] [], none⟩, ⟨some 71, .bld [(.int .i64 0), (.int .i64 0)] [(0, 1, (.const (.int .i64 1)))], none⟩, ⟨some 72, .call 23 [(.tmp 70), (.tmp 71)], none⟩, ⟨some 69, .mov (.tmp 72), none⟩, ⟨some 73, .ext (.tmp 69) 0, none⟩, ⟨some 74, .ext (.tmp 69) 1, none⟩, ⟨some 11, .new [(.int .i64 0), (.int .i64 0), (.int .i64 0), (.int .i64 0), (.slice none 0 0)], none⟩, ⟨none, .store 5 (.tmp 11) (.tmp 73), none⟩, ⟨some 12, .mov (.tmp 74), none⟩]) (.seq (.ops [⟨some 75, .mov (.tmp 12), none⟩, ⟨some 76, .mov (.tmp 75), none⟩, ⟨some 77, .fadr 0 (.tmp 11), some (76, true)⟩, ⟨some 78, .iarr 2 2 (.tmp 77) (.const (.int .i64 0)), some (76, true)⟩, ⟨some 79, .fadr 1 (.tmp 78), some (76, true)⟩, ⟨some 80, .load 1 false (.tmp 79), some (76, true)⟩, ⟨some 81, .bin .eql (.tmp 80) (.const (.int .i64 1)), some (76, true)⟩, ⟨some 82, .pick (.tmp 76) (.tmp 81) (.const (.bool false)), none⟩, ⟨some 83, .mov (.tmp 82), none⟩, ⟨some 84, .load 5 true (.tmp 10), some (83, true)⟩, ⟨some 85, .call 32 [(.tmp 84)], some (83, true)⟩, ⟨some 86, .pick (.tmp 83) (.tmp 85) (.const (.bool false)), none⟩, ⟨some 87, .mov (.tmp 86), none⟩, ⟨some 88, .fadr 4 (.tmp 10), some (87, true)⟩, ⟨some 89, .load 1 false (.tmp 88), some (87, true)⟩, ⟨some 90, .len (.tmp 89), some (87, true)⟩, ⟨some 91, .bin .eql (.tmp 90) (.const (.int .i64 0)), some (87, true)⟩, ⟨some 92, .pick (.tmp 87) (.tmp 91) (.const (.bool false)), none⟩, ⟨some 93, .mov (.tmp 92), none⟩, ⟨some 94, .load 5 true (.tmp 10), some (93, true)⟩, ⟨some 95, .call 33 [(.tmp 94)], some (93, true)⟩, ⟨some 96, .pick (.tmp 93) (.tmp 95) (.const (.bool false)), none⟩, ⟨some 97, .mov (.tmp 96), none⟩, ⟨some 98, .load 5 true (.tmp 10), some (97, true)⟩, ⟨some 99, .call 34 [(.tmp 98)], some (97, true)⟩, ⟨some 100, .pick (.tmp 97) (.tmp 99) (.const (.bool false)), none⟩, ⟨some 101, .mov (.tmp 100), none⟩, ⟨some 102, .fadr 0 (.tmp 10), some (101, true)⟩, ⟨some 103, .iarr 2 2 (.tmp 102) (.const (.int .i64 0)), some (101, true)⟩, ⟨some 104, .fadr 1 (.tmp 103), some (101, true)⟩, ⟨some 105, .load 1 false (.tmp 104), some (101, true)⟩, ⟨some 106, .fadr 0 (.tmp 4), some (101, true)⟩, ⟨some 107, .iarr 2 2 (.tmp 106) (.const (.int .i64 0)), some (101, true)⟩, ⟨some 108, .fadr 1 (.tmp 107), some (101, true)⟩, ⟨some 109, .load 1 false (.tmp 108), some (101, true)⟩, ⟨some 110, .bin .eql (.tmp 105) (.tmp 109), some (101, true)⟩, ⟨some 111, .pick (.tmp 101) (.tmp 110) (.const (.bool false)), none⟩, ⟨some 2, .mov (.tmp 111), none⟩]) .ret))))))))
@[reducible] def rv7 : List RV := [.tmp 2]
theorem low7 : lowC Try.prog tau Try.f7.ntmps (Try.f7.body.getD .skip) = some (erase ic7) := by kernel_rfl
theorem res7 : lowR Try.prog Try.f7.results.toList = some rv7 := by kernel_rfl
theorem bod7 : Try.f7.body = some (Try.f7.body.getD .skip) := by kernel_rfl
theorem cal7 : callable Try.prog 7 = true := by kernel_rfl

end Go.Proofs.YtiakjdcognckpaaE

/-! The law of agreed halves. -/
namespace Go.Proofs.YtiakjdcognckpaaE
open Go Go.RowKit
set_option linter.unusedSimpArgs false
set_option linter.unusedVariables false
set_option maxRecDepth 20000
set_option maxHeartbeats 4000000

def spLaw7 : Spec := ⟨fun _ _ => [], fun args objs K => match args, objs with
  | [.rs .byte code], [] => K (.v (.bool true)) [] 0
  | _, _ => False, false⟩
theorem spLaw7_t {L : Hp} {a : List AVal} : Spec.take spLaw7 L a = [] := id rfl
theorem spLaw7_k : Spec.keep spLaw7 = false := id rfl
theorem spLaw7_f {code} {K : AVal → Hp → Nat → Prop} : Spec.f spLaw7 ([.rs .byte code]) ([]) K = (K (.v (.bool true)) [] 0) := id rfl
theorem dayE_len (code : List Int) : (dayE code).length ≤ 300 := by
  unfold dayE
  rw [dayR_len]
  have hs := sizeV_bd code.length
  have hx := curX_bd code 0 (hashN code (min code.length 4000))
  have hm2 : (curX code 0 (hashN code (min code.length 4000))).tmod (6 * sizeV code.length 20) < 6 * sizeV code.length 20 := Int.tmod_lt_of_pos _ (by omega)
  omega
theorem inv_run {d : Du} (h : Inv d) (l : List Ev) : Inv (runF d l) := by
  induction l generalizing d with
  | nil => exact h
  | cons e r ih => exact ih (doEv_inv h)
theorem valid7 : Valid Try.prog 7 spLaw7 := by
  refine validI (Γ := lk [(30, spBig), (31, spDay), (23, spDoEvU), (21, spDoEv), (32, spDuOk), (17, spSettle), (33, spAgree), (34, spAgree)]) Try.func7 bod7 low7 res7 (good_of ⟨⟨cal30, valid30⟩, ⟨cal31, valid31⟩, ⟨cal23, valid23U⟩, ⟨cal21, valid21⟩, ⟨cal32, valid32⟩, ⟨cal17, valid17⟩, ⟨cal33, valid33⟩, ⟨cal34, valid34⟩, trivial⟩) ?_
  intro E args objs K h hE hG hP
  simp only [spLaw7] at h
  split at h
  · refine ⟨by simp [Try.ntmps7], ?_⟩
    rename_i code
    by_cases hbig : (code.length : Int) > 1048576
    · have hbe := eq_true hbig
      simp (config := { maxSteps := 2000000 }) only [go_sem, hG, hP, Nat.reduceEqDiff, ↓reduceIte, reduceCtorEq, Nat.reduceAdd, Nat.reduceSub, Nat.reduceMul, Nat.reduceLT, Nat.reduceLeDiff, Int.reduceAdd, Int.reduceSub, Int.reduceMul, Int.reduceLT, Int.reduceLE, Int.reduceEq, Int.reduceNeg, Int.reduceNe, Int.reduceGE, Int.reduceGT, Nat.reduceBEq, Int.reduceToNat,  spBig_f, spBig_t, spBig_k, hbe]
      refine ⟨_, _, _, ?_, h⟩
      simp (config := { maxSteps := 2000000 }) only [go_sem, hG, hP, Nat.reduceEqDiff, ↓reduceIte, reduceCtorEq, Nat.reduceAdd, Nat.reduceSub, Nat.reduceMul, Nat.reduceLT, Nat.reduceLeDiff, Int.reduceAdd, Int.reduceSub, Int.reduceMul, Int.reduceLT, Int.reduceLE, Int.reduceEq, Int.reduceNeg, Int.reduceNe, Int.reduceGE, Int.reduceGT, Nat.reduceBEq, Int.reduceToNat]
    · have hbe := eq_false hbig
      simp (config := { maxSteps := 2000000 }) only [go_sem, hG, hP, Nat.reduceEqDiff, ↓reduceIte, reduceCtorEq, Nat.reduceAdd, Nat.reduceSub, Nat.reduceMul, Nat.reduceLT, Nat.reduceLeDiff, Int.reduceAdd, Int.reduceSub, Int.reduceMul, Int.reduceLT, Int.reduceLE, Int.reduceEq, Int.reduceNeg, Int.reduceNe, Int.reduceGE, Int.reduceGT, Nat.reduceBEq, Int.reduceToNat,  spBig_f, spBig_t, spBig_k, spDay_f, spDay_t, spDay_k, hbe]
      repeat (refine And.intro (by first | omega | (simp; done) | (simp; omega) | (unfold appRoom; omega)) ?_)
      refine loopI hE (fun p : Nat × Du => ⟨[(3, .sub 0 2 0 (dayE code).length), (4, .ptr 1 0), (5, .v (.int .i64 p.1))], [(0, .row .ev (dayE code)), (1, .box [.v (.int .i64 p.2.a), .v (.int .i64 p.2.x), .v (.int .i64 p.2.b), .v (.int .i64 p.2.y), .sub 2 3 0 p.2.q.length]), (2, .row .sig p.2.q)], 3, Try.f7.ntmps⟩) (fun p => p.1 ≤ (dayE code).length ∧ Inv p.2) (fun p => (dayE code).length - p.1) ⟨(0, ⟨0, 0, 0, 0, []⟩), ⟨Nat.zero_le _, inv_zero⟩, SubS.weak ?_⟩ ?_
      · simp (config := { maxSteps := 2000000 }) only [go_sem, hG, hP, Nat.reduceEqDiff, ↓reduceIte, reduceCtorEq, Nat.reduceAdd, Nat.reduceSub, Nat.reduceMul, Nat.reduceLT, Nat.reduceLeDiff, Int.reduceAdd, Int.reduceSub, Int.reduceMul, Int.reduceLT, Int.reduceLE, Int.reduceEq, Int.reduceNeg, Int.reduceNe, Int.reduceGE, Int.reduceGT, Nat.reduceBEq, Int.reduceToNat]
        all_goals simp
      · rintro ⟨j, ⟨a, x, b, y, q⟩⟩ ⟨hj, hi⟩
        dsimp only at hj
        have hi : Inv ⟨a, x, b, y, q⟩ := hi
        have hl := (duOk_head hi.1).2
        dsimp only at hl
        by_cases hlt : (j : Int) < ((dayE code).length : Int)
        · have hlte := eq_true hlt
          have hi2 := doEv_inv (k := ((dayE code).getD j ⟨0, 0⟩).kind) (p := ((dayE code).getD j ⟨0, 0⟩).pl) hi
          rcases hd : doEv ⟨a, x, b, y, q⟩ ((dayE code).getD j ⟨0, 0⟩).kind ((dayE code).getD j ⟨0, 0⟩).pl with ⟨⟨a2, x2, b2, y2, q2⟩, ok⟩
          rw [hd] at hi2
          have hi2 : Inv ⟨a2, x2, b2, y2, q2⟩ := hi2
          have hok2 := hi2.1
          have hl2 := (duOk_head hi2.1).2
          dsimp only at hl2
          have hdl := dayE_len code
          have hw : wr .i64 ((j : Int) + 1) = (j : Int) + 1 := wrap_id (by omega) (by omega)
          simp (config := { maxSteps := 2000000 }) only [go_sem, hG, hP, Nat.reduceEqDiff, ↓reduceIte, reduceCtorEq, Nat.reduceAdd, Nat.reduceSub, Nat.reduceMul, Nat.reduceLT, Nat.reduceLeDiff, Int.reduceAdd, Int.reduceSub, Int.reduceMul, Int.reduceLT, Int.reduceLE, Int.reduceEq, Int.reduceNeg, Int.reduceNe, Int.reduceGE, Int.reduceGT, Nat.reduceBEq, Int.reduceToNat,  spDoEvU_f, spDoEvU_t, spDoEvU_k, spDoEv_f, spDoEv_t, spDoEv_k, spDuOk_f, spDuOk_t, spDuOk_k, duA_eq, duL_eq, hd, hlte, hok2, bb_self, hw]
          repeat' (first | (refine And.intro ?_ ?_) | (with_reducible intro _))
          all_goals try omega
          refine ⟨(j + 1, ⟨a2, x2, b2, y2, q2⟩), ⟨⟨by dsimp only; omega, hi2⟩, by dsimp only; omega⟩, SubS.weak ?_⟩
          simp (config := { maxSteps := 2000000 }) only [go_sem, hG, hP, Nat.reduceEqDiff, ↓reduceIte, reduceCtorEq, Nat.reduceAdd, Nat.reduceSub, Nat.reduceMul, Nat.reduceLT, Nat.reduceLeDiff, Int.reduceAdd, Int.reduceSub, Int.reduceMul, Int.reduceLT, Int.reduceLE, Int.reduceEq, Int.reduceNeg, Int.reduceNe, Int.reduceGE, Int.reduceGT, Nat.reduceBEq, Int.reduceToNat]
          all_goals simp
        · have hlte := eq_false hlt
          obtain ⟨hA, hq, hx, hi3⟩ := settle3_all hi
          rcases hs : settleD ⟨a, x, b, y, q⟩ 3 with ⟨a3, x3, b3, y3, q3⟩
          rw [hs] at hA hq hx hi3
          dsimp only at hq hx
          subst hq
          subst hx
          have hok3 := hi3.1
          simp (config := { maxSteps := 2000000 }) only [go_sem, hG, hP, Nat.reduceEqDiff, ↓reduceIte, reduceCtorEq, Nat.reduceAdd, Nat.reduceSub, Nat.reduceMul, Nat.reduceLT, Nat.reduceLeDiff, Int.reduceAdd, Int.reduceSub, Int.reduceMul, Int.reduceLT, Int.reduceLE, Int.reduceEq, Int.reduceNeg, Int.reduceNe, Int.reduceGE, Int.reduceGT, Nat.reduceBEq, Int.reduceToNat,  spDoEvU_f, spDoEvU_t, spDoEvU_k, spDuOk_f, spDuOk_t, spDuOk_k, spSettle_f, spSettle_t, spSettle_k, spAgree_f, spAgree_t, spAgree_k, duA_eq, duL_eq, hs, hlte, hok3, doEv_first]
          repeat' (first | (refine And.intro ?_ ?_) | (with_reducible intro _))
          all_goals first
            | omega
            | exact hA
            | (refine ⟨_, _, _, ?_, h⟩; simp (config := { maxSteps := 2000000 }) only [go_sem, hG, hP, Nat.reduceEqDiff, ↓reduceIte, reduceCtorEq, Nat.reduceAdd, Nat.reduceSub, Nat.reduceMul, Nat.reduceLT, Nat.reduceLeDiff, Int.reduceAdd, Int.reduceSub, Int.reduceMul, Int.reduceLT, Int.reduceLE, Int.reduceEq, Int.reduceNeg, Int.reduceNe, Int.reduceGE, Int.reduceGT, Nat.reduceBEq, Int.reduceToNat]; all_goals (first | (simp; done) | omega))
            | (simp; done)
  · exact h.elim
end Go.Proofs.YtiakjdcognckpaaE

/-! What a half that clears comes to. -/
namespace Go.Proofs.YtiakjdcognckpaaE
open Go Go.RowKit
set_option linter.unusedSimpArgs false
set_option linter.unusedVariables false
set_option maxRecDepth 20000
set_option maxHeartbeats 4000000

/-- The first half is clearing or idle, and its call stays. -/
def Cl0 (d : Du) : Prop := d.a = 4 ∨ d.a = 0
/-- The second half's call is at least c; at the last call it is clearing or idle. -/
def Cl1 (c : Int) (d : Du) : Prop := c ≤ d.y ∧ (c = d.x → d.y = d.x ∧ (d.b = 4 ∨ d.b = 0))
theorem arr_cl0 {d : Du} {s : Sig} (h : Cl0 d) : Cl0 (arr d s) := by
  unfold Cl0 at *
  unfold arr
  repeat' split
  all_goals first | exact h | omega | (dsimp only; omega)
theorem arr_cl1 {c : Int} {d : Du} {s : Sig} (hH : d.y ≤ d.x) (hs : s.call ≤ d.x) (h : Cl1 c d) : Cl1 c (arr d s) := by
  unfold Cl1 at *
  unfold arr
  repeat' split
  all_goals first | exact h | omega | (dsimp only; omega)
theorem timer_cl0 {d : Du} {p : Int} (h : Cl0 d) : Cl0 (timer d p) := by
  unfold Cl0 at *
  unfold timer
  repeat' split
  all_goals exact h
theorem timer_cl1 {c : Int} {d : Du} {p : Int} (h : Cl1 c d) : Cl1 c (timer d p) := by
  unfold Cl1 at *
  unfold timer
  repeat' split
  all_goals exact h
/-- A property that a signal's arrival keeps is kept by carrying all. -/
theorem carF_keep (Pr : Du → Prop) (hP : ∀ (a x b y : Int) (s : Sig) (r : List Sig), Inv ⟨a, x, b, y, s :: r⟩ → Pr ⟨a, x, b, y, s :: r⟩ → Pr (arr ⟨a, x, b, y, r⟩ s)) : ∀ (k : Nat) (d : Du), Inv d → Pr d → Pr (carF k d)
  | 0, d, h, hp => hp
  | k + 1, d, h, hp => by
    by_cases hq : d.q = []
    · rw [carF_done hq]; exact hp
    · rw [carF_step hq]
      refine carF_keep Pr hP k _ (way0_inv h hq) ?_
      obtain ⟨a, x, b, y, q⟩ := d
      cases q with
      | nil => exact absurd rfl hq
      | cons s r => rw [way0_eq]; exact hP a x b y s r h hp
theorem stepT_keep (Pr : Du → Prop) (hP : ∀ (a x b y : Int) (s : Sig) (r : List Sig), Inv ⟨a, x, b, y, s :: r⟩ → Pr ⟨a, x, b, y, s :: r⟩ → Pr (arr ⟨a, x, b, y, r⟩ s)) (hT : ∀ d p, Pr d → Pr (timer d p)) {d : Du} (h : Inv d) (hq : d.q = []) (hp : Pr d) : Pr (stepT d) := by
  have h1 := timer_inv (p := 0) h (by rw [hq]; decide) (.inl rfl)
  have h2 := (timer_ok (p := 0) h.1 (by rw [hq]; decide)).2
  rw [hq] at h2
  have h3 := timer_inv (p := 1) h1 (by simp at h2; omega) (.inr rfl)
  exact carF_keep Pr hP _ _ h3 (hT _ _ (hT _ _ hp))
theorem settle_keep (Pr : Du → Prop) (hP : ∀ (a x b y : Int) (s : Sig) (r : List Sig), Inv ⟨a, x, b, y, s :: r⟩ → Pr ⟨a, x, b, y, s :: r⟩ → Pr (arr ⟨a, x, b, y, r⟩ s)) (hT : ∀ d p, Pr d → Pr (timer d p)) {d : Du} (h : Inv d) (hp : Pr d) : Pr (settleD d 3) := by
  rw [settle3 h.1]
  have c0 := carD_inv h
  have q0 := (carD_ok h.1).2
  obtain ⟨c1, q1⟩ := stepT_inv c0 q0
  obtain ⟨c2, q2⟩ := stepT_inv c1 q1
  exact stepT_keep Pr hP hT c2 q2 (stepT_keep Pr hP hT c1 q1 (stepT_keep Pr hP hT c0 q0 (carF_keep Pr hP _ _ h hp)))
theorem settle_cl0 {d : Du} (h : Inv d) (hc : Cl0 d) : Cl0 (settleD d 3) :=
  settle_keep Cl0 (fun a x b y s r hi hp => arr_cl0 (d := ⟨a, x, b, y, r⟩) hp) (fun d p hp => timer_cl0 hp) h hc
theorem settle_cl1 {c : Int} {d : Du} (h : Inv d) (hc : Cl1 c d) : Cl1 c (settleD d 3) :=
  settle_keep (Cl1 c) (fun a x b y s r hi hp => by
    have h1 := (duOk_head hi.1).1
    unfold headP at h1
    have h2 := sig_mem hi.1 (s := s) (by simp)
    exact arr_cl1 (d := ⟨a, x, b, y, r⟩) (by dsimp only at *; omega) (by dsimp only at *; omega) hp) (fun d p hp => timer_cl1 hp) h hc
/-- A call that the first half clears is over. -/
theorem over0 {d : Du} (h : Inv d) (hc : Cl0 d) : (settleD d 3).a = 0 ∧ (settleD d 3).b = 0 ∧ (settleD d 3).y = d.x ∧ (settleD d 3).x = d.x := by
  obtain ⟨h1, h2, h3, h4⟩ := settle3_all h
  have h5 := settle_cl0 h hc
  unfold agr at h1
  unfold Cl0 at h5
  rw [h3] at h1
  omega
/-- A call that the second half clears is over, or not the last. -/
theorem over1 {d : Du} {c : Int} (h : Inv d) (hc : Cl1 c d) (hle : c ≤ d.x) : (settleD d 3).x = d.x ∧ c ≤ (settleD d 3).y ∧ ((settleD d 3).y = c → (settleD d 3).b = 0) ∧ (c = d.x → (settleD d 3).a = 0) := by
  obtain ⟨h1, h2, h3, h4⟩ := settle3_all h
  have h5 := settle_cl1 h hc
  unfold agr at h1
  unfold Cl1 at h5
  rw [h3] at h1 h5
  have h6 := (duOk_head h4.1).1
  unfold headP at h6
  rw [h3] at h6
  refine ⟨h3, by omega, fun e => by omega, fun e2 => by omega⟩
end Go.Proofs.YtiakjdcognckpaaE

/-! The code of a function, in the engine's words. -/
namespace Go.Proofs.YtiakjdcognckpaaE
open Go Go.RowKit
@[reducible] def ic35 : IC := (.seq (.ops [⟨some 4, .mov (.const (.int .i64 0)), none⟩]) (.seq (.seq (.ops [⟨some 5, .mov (.tmp 1), none⟩, ⟨some 6, .mov (.tmp 0), none⟩, ⟨some 7, .len (.tmp 6), none⟩, ⟨some 8, .bin .lss (.tmp 5) (.tmp 7), none⟩]) (.cond (.tmp 8) (.seq (.ops [⟨some 9, .mov (.tmp 0), none⟩, ⟨some 10, .mov (.tmp 1), none⟩, ⟨some 11, .iadr 1 (.tmp 9) (.tmp 10), none⟩, ⟨some 12, .load 1 false (.tmp 11), none⟩, ⟨some 13, .cvi .i64 (.tmp 12), none⟩, ⟨some 4, .mov (.tmp 13), none⟩]) .ret) .skip)) (.seq (.ops [⟨some 14, .mov (.tmp 1), none⟩, ⟨some 15, .bin .mul (.tmp 14) (.const (.int .i64 7)), none⟩, ⟨some 16, .mov (.tmp 0), none⟩, ⟨some 17, .len (.tmp 16), none⟩, ⟨some 18, .bin .add (.tmp 15) (.tmp 17), none⟩, ⟨some 19, .bin .rem (.tmp 18) (.const (.int .i64 256)), none⟩, ⟨some 4, .mov (.tmp 19), none⟩]) .ret)))
@[reducible] def rv35 : List RV := [.tmp 4]
theorem low35 : lowC Try.prog tau Try.f35.ntmps (Try.f35.body.getD .skip) = some (erase ic35) := by kernel_rfl
theorem res35 : lowR Try.prog Try.f35.results.toList = some rv35 := by kernel_rfl
theorem bod35 : Try.f35.body = some (Try.f35.body.getD .skip) := by kernel_rfl
theorem cal35 : callable Try.prog 35 = true := by kernel_rfl

end Go.Proofs.YtiakjdcognckpaaE

/-! The code of a function, in the engine's words. -/
namespace Go.Proofs.YtiakjdcognckpaaE
open Go Go.RowKit
@[reducible] def ic8 : IC := (.seq (.ops [⟨some 2, .mov (.const (.bool false)), none⟩]) (.seq (.seq (.ops [⟨some 17, .mov (.tmp 0), none⟩, ⟨some 18, .call 30 [(.tmp 17)], none⟩]) (.cond (.tmp 18) (.seq (.ops [⟨some 2, .mov (.const (.bool true)), none⟩]) .ret) .skip)) (.seq (.ops [⟨some 19, .bld [(.int .i64 0), (.int .i64 0), (.int .i64 0), (.int .i64 0), (.slice none 0 0)] [], none⟩, ⟨some 20, .mov (.tmp 0), none⟩, ⟨some 21, .call 31 [(.tmp 20)], none⟩, ⟨some 22, .call 27 [(.tmp 19), (.tmp 21)], none⟩, ⟨some 3, .new [(.int .i64 0), (.int .i64 0), (.int .i64 0), (.int .i64 0), (.slice none 0 0)], none⟩, ⟨none, .store 5 (.tmp 3) (.tmp 22), none⟩]) (.seq (.seq (.ops [⟨some 23, .bld [(.int .i64 0), (.int .i64 0), (.int .i64 0), (.int .i64 0), (.slice none 0 0)] [], none⟩, ⟨some 24, .mov (.tmp 0), none⟩, ⟨some 25, .call 31 [(.tmp 24)], none⟩, ⟨some 26, .call 25 [(.tmp 23), (.tmp 25)], none⟩, ⟨some 4, .new [(.int .i64 0), (.int .i64 0), (.int .i64 0), (.int .i64 0), (.slice none 0 0)], none⟩, ⟨none, .store 5 (.tmp 4) (.tmp 26), none⟩]) (.seq (.ops [⟨some 27, .fadr 0 (.tmp 3), none⟩, ⟨some 28, .load 4 true (.tmp 27), none⟩, ⟨some 29, .fadr 0 (.tmp 4), none⟩, ⟨some 30, .load 4 true (.tmp 29), none⟩, ⟨some 31, .heq true (.tmp 28) (.tmp 30), none⟩, ⟨some 32, .mov (.tmp 31), none⟩, ⟨some 33, .load 5 true (.tmp 3), some (32, false)⟩, ⟨some 34, .call 32 [(.tmp 33)], some (32, false)⟩, ⟨some 35, .una .not (.tmp 34), some (32, false)⟩, ⟨some 36, .pick (.tmp 32) (.const (.bool true)) (.tmp 35), none⟩]) (.cond (.tmp 36) (.seq (.ops [⟨some 2, .mov (.const (.bool false)), none⟩]) .ret) .skip))) (.seq (.ops [⟨some 37, .mov (.tmp 0), none⟩, ⟨some 38, .call 35 [(.tmp 37), (.const (.int .i64 0))], none⟩, ⟨some 39, .bin .rem (.tmp 38) (.const (.int .i64 2)), none⟩, ⟨some 5, .mov (.tmp 39), none⟩]) (.seq (.ops [⟨some 41, .load 5 true (.tmp 3), none⟩, ⟨some 42, .mov (.tmp 5), none⟩, ⟨some 43, .bld [(.int .i64 0), (.int .i64 0)] [(0, 1, (.const (.int .i64 3))), (1, 1, (.tmp 42))], none⟩, ⟨some 44, .call 23 [(.tmp 41), (.tmp 43)], none⟩, ⟨some 40, .mov (.tmp 44), none⟩, ⟨some 45, .ext (.tmp 40) 0, none⟩, ⟨some 46, .ext (.tmp 40) 1, none⟩, ⟨some 6, .new [(.int .i64 0), (.int .i64 0), (.int .i64 0), (.int .i64 0), (.slice none 0 0)], none⟩, ⟨none, .store 5 (.tmp 6) (.tmp 45), none⟩, ⟨some 7, .mov (.tmp 46), none⟩]) (.seq (.seq (.ops [⟨some 48, .load 5 true (.tmp 3), none⟩, ⟨some 49, .mov (.tmp 5), none⟩, ⟨some 50, .bld [(.int .i64 0), (.int .i64 0)] [(0, 1, (.const (.int .i64 3))), (1, 1, (.tmp 49))], none⟩, ⟨some 51, .call 21 [(.tmp 48), (.tmp 50)], none⟩, ⟨some 47, .mov (.tmp 51), none⟩, ⟨some 52, .ext (.tmp 47) 0, none⟩, ⟨some 53, .ext (.tmp 47) 1, none⟩, ⟨some 8, .new [(.int .i64 0), (.int .i64 0), (.int .i64 0), (.int .i64 0), (.slice none 0 0)], none⟩, ⟨none, .store 5 (.tmp 8) (.tmp 52), none⟩, ⟨some 9, .mov (.tmp 53), none⟩]) (.seq (.ops [⟨some 54, .mov (.tmp 7), none⟩, ⟨some 55, .mov (.tmp 9), none⟩, ⟨some 56, .beq true (.tmp 54) (.tmp 55), none⟩]) (.cond (.tmp 56) (.seq (.ops [⟨some 2, .mov (.const (.bool false)), none⟩]) .ret) .skip))) (.seq (.seq (.ops [⟨some 57, .mov (.tmp 7), none⟩, ⟨some 58, .una .not (.tmp 57), none⟩]) (.cond (.tmp 58) (.seq (.ops [⟨some 60, .bld [(.int .i64 0), (.int .i64 0), (.int .i64 0), (.int .i64 0), (.slice none 0 0)] [], none⟩, ⟨some 61, .bld [(.int .i64 0), (.int .i64 0)] [(0, 1, (.const (.int .i64 1)))], none⟩, ⟨some 62, .call 23 [(.tmp 60), (.tmp 61)], none⟩, ⟨some 59, .mov (.tmp 62), none⟩, ⟨some 63, .ext (.tmp 59) 0, none⟩, ⟨some 64, .ext (.tmp 59) 1, none⟩, ⟨some 10, .new [(.int .i64 0), (.int .i64 0), (.int .i64 0), (.int .i64 0), (.slice none 0 0)], none⟩, ⟨none, .store 5 (.tmp 10) (.tmp 63), none⟩, ⟨some 11, .mov (.tmp 64), none⟩]) (.seq (.ops [⟨some 65, .mov (.tmp 11), none⟩, ⟨some 66, .mov (.tmp 65), none⟩, ⟨some 67, .fadr 0 (.tmp 10), some (66, true)⟩, ⟨some 68, .iarr 2 2 (.tmp 67) (.const (.int .i64 0)), some (66, true)⟩, ⟨some 69, .fadr 0 (.tmp 68), some (66, true)⟩, ⟨some 70, .load 1 false (.tmp 69), some (66, true)⟩, ⟨some 71, .bin .eql (.tmp 70) (.const (.int .i64 1)), some (66, true)⟩, ⟨some 72, .pick (.tmp 66) (.tmp 71) (.const (.bool false)), none⟩, ⟨some 2, .mov (.tmp 72), none⟩]) .ret)) .skip)) (.seq (.ops [⟨some 73, .mov (.tmp 5), none⟩, ⟨some 74, .fadr 0 (.tmp 6), none⟩, ⟨some 75, .iarr 2 2 (.tmp 74) (.tmp 73), none⟩, ⟨some 76, .fadr 1 (.tmp 75), none⟩, ⟨some 77, .load 1 false (.tmp 76), none⟩, ⟨some 12, .mov (.tmp 77), none⟩]) (.seq (.ops [⟨some 78, .load 5 true (.tmp 6), none⟩, ⟨some 79, .call 17 [(.tmp 78), (.const (.int .i64 3))], none⟩, ⟨some 13, .new [(.int .i64 0), (.int .i64 0), (.int .i64 0), (.int .i64 0), (.slice none 0 0)], none⟩, ⟨none, .store 5 (.tmp 13) (.tmp 79), none⟩]) (.seq (.seq (.ops [⟨some 14, .mov (.const (.int .i64 0)), none⟩]) (.block 0 (.loop (.seq (.seq (.ops [⟨some 80, .mov (.tmp 14), none⟩, ⟨some 81, .bin .lss (.tmp 80) (.const (.int .i64 2)), none⟩]) (.cond (.tmp 81) .skip (.exit 0))) (.seq (.block 1 (.seq (.ops [⟨some 84, .mov (.tmp 14), none⟩, ⟨some 85, .fadr 0 (.tmp 13), none⟩, ⟨some 86, .iarr 2 2 (.tmp 85) (.tmp 84), none⟩, ⟨some 87, .fadr 1 (.tmp 86), none⟩, ⟨some 88, .load 1 false (.tmp 87), none⟩, ⟨some 89, .mov (.tmp 12), none⟩, ⟨some 90, .bin .lss (.tmp 88) (.tmp 89), none⟩, ⟨some 91, .mov (.tmp 90), none⟩, ⟨some 92, .mov (.tmp 14), some (91, true)⟩, ⟨some 93, .mov (.tmp 5), some (91, true)⟩, ⟨some 94, .bin .eql (.tmp 92) (.tmp 93), some (91, true)⟩, ⟨some 95, .pick (.tmp 91) (.tmp 94) (.const (.bool false)), none⟩, ⟨some 96, .mov (.tmp 95), none⟩, ⟨some 97, .mov (.tmp 14), some (96, false)⟩, ⟨some 98, .fadr 0 (.tmp 13), some (96, false)⟩, ⟨some 99, .iarr 2 2 (.tmp 98) (.tmp 97), some (96, false)⟩, ⟨some 100, .fadr 1 (.tmp 99), some (96, false)⟩, ⟨some 101, .load 1 false (.tmp 100), some (96, false)⟩, ⟨some 102, .mov (.tmp 12), some (96, false)⟩, ⟨some 103, .bin .eql (.tmp 101) (.tmp 102), some (96, false)⟩, ⟨some 104, .mov (.tmp 103), some (96, false)⟩, ⟨some 105, .mov (.tmp 14), some (104, true)⟩, ⟨some 106, .fadr 0 (.tmp 13), some (104, true)⟩, ⟨some 107, .iarr 2 2 (.tmp 106) (.tmp 105), some (104, true)⟩, ⟨some 108, .fadr 0 (.tmp 107), some (104, true)⟩, ⟨some 109, .load 1 false (.tmp 108), some (104, true)⟩, ⟨some 110, .bin .neq (.tmp 109) (.const (.int .i64 0)), some (104, true)⟩, ⟨some 111, .pick (.tmp 104) (.tmp 110) (.const (.bool false)), some (96, false)⟩, ⟨some 112, .pick (.tmp 96) (.const (.bool true)) (.tmp 111), none⟩]) (.cond (.tmp 112) (.seq (.ops [⟨some 2, .mov (.const (.bool false)), none⟩]) .ret) .skip))) (.ops [⟨some 82, .mov (.tmp 14), none⟩, ⟨some 83, .bin .add (.tmp 82) (.const (.int .i64 1)), none⟩, ⟨some 14, .mov (.tmp 83), none⟩])))))) (.seq (.seq (.ops [⟨some 113, .fadr 0 (.tmp 13), none⟩, ⟨some 114, .iarr 2 2 (.tmp 113) (.const (.int .i64 0)), none⟩, ⟨some 115, .fadr 0 (.tmp 114), none⟩, ⟨some 116, .load 1 false (.tmp 115), none⟩, ⟨some 117, .bin .neq (.tmp 116) (.const (.int .i64 0)), none⟩, ⟨some 118, .mov (.tmp 117), none⟩, ⟨some 119, .fadr 0 (.tmp 13), some (118, false)⟩, ⟨some 120, .iarr 2 2 (.tmp 119) (.const (.int .i64 0)), some (118, false)⟩, ⟨some 121, .fadr 1 (.tmp 120), some (118, false)⟩, ⟨some 122, .load 1 false (.tmp 121), some (118, false)⟩, ⟨some 123, .bin .geq (.tmp 122) (.const (.int .i64 1000)), some (118, false)⟩, ⟨some 124, .pick (.tmp 118) (.const (.bool true)) (.tmp 123), none⟩]) (.cond (.tmp 124) (.seq (.ops [⟨some 125, .fadr 0 (.tmp 13), none⟩, ⟨some 126, .iarr 2 2 (.tmp 125) (.const (.int .i64 0)), none⟩, ⟨some 127, .fadr 1 (.tmp 126), none⟩, ⟨some 128, .load 1 false (.tmp 127), none⟩, ⟨some 129, .mov (.tmp 12), none⟩, ⟨some 130, .bin .gtr (.tmp 128) (.tmp 129), none⟩, ⟨some 131, .mov (.tmp 130), none⟩, ⟨some 132, .fadr 0 (.tmp 13), some (131, false)⟩, ⟨some 133, .iarr 2 2 (.tmp 132) (.const (.int .i64 0)), some (131, false)⟩, ⟨some 134, .fadr 1 (.tmp 133), some (131, false)⟩, ⟨some 135, .load 1 false (.tmp 134), some (131, false)⟩, ⟨some 136, .bin .geq (.tmp 135) (.const (.int .i64 1000)), some (131, false)⟩, ⟨some 137, .pick (.tmp 131) (.const (.bool true)) (.tmp 136), none⟩, ⟨some 2, .mov (.tmp 137), none⟩]) .ret) .skip)) (.seq (.ops [⟨some 139, .load 5 true (.tmp 13), none⟩, ⟨some 140, .bld [(.int .i64 0), (.int .i64 0)] [(0, 1, (.const (.int .i64 1)))], none⟩, ⟨some 141, .call 23 [(.tmp 139), (.tmp 140)], none⟩, ⟨some 138, .mov (.tmp 141), none⟩, ⟨some 142, .ext (.tmp 138) 0, none⟩, ⟨some 143, .ext (.tmp 138) 1, none⟩, ⟨some 15, .new [(.int .i64 0), (.int .i64 0), (.int .i64 0), (.int .i64 0), (.slice none 0 0)], none⟩, ⟨none, .store 5 (.tmp 15) (.tmp 142), none⟩, ⟨some 16, .mov (.tmp 143), none⟩]) (.seq (.ops [⟨some 144, .mov (.tmp 16), none⟩, ⟨some 145, .mov (.tmp 144), none⟩, ⟨some 146, .fadr 0 (.tmp 15), some (145, true)⟩, ⟨some 147, .iarr 2 2 (.tmp 146) (.const (.int .i64 0)), some (145, true)⟩, ⟨some 148, .fadr 1 (.tmp 147), some (145, true)⟩, ⟨some 149, .load 1 false (.tmp 148), some (145, true)⟩, ⟨some 150, .fadr 0 (.tmp 13), some (145, true)⟩, ⟨some 151, .iarr 2 2 (.tmp 150) (.const (.int .i64 0)), some (145, true)⟩, ⟨some 152, .fadr 1 (.tmp 151), some (145, true)⟩, ⟨some 153, .load 1 false (.tmp 152), some (145, true)⟩, ⟨some 154, .bin .add (.tmp 153) (.const (.int .i64 1)), some (145, true)⟩, ⟨some 155, .bin .eql (.tmp 149) (.tmp 154), some (145, true)⟩, ⟨some 156, .pick (.tmp 145) (.tmp 155) (.const (.bool false)), none⟩, ⟨some 2, .mov (.tmp 156), none⟩]) .ret))))))))))))))
@[reducible] def rv8 : List RV := [.tmp 2]
theorem low8 : lowC Try.prog tau Try.f8.ntmps (Try.f8.body.getD .skip) = some (erase ic8) := by kernel_rfl
theorem res8 : lowR Try.prog Try.f8.results.toList = some rv8 := by kernel_rfl
theorem bod8 : Try.f8.body = some (Try.f8.body.getD .skip) := by kernel_rfl
theorem cal8 : callable Try.prog 8 = true := by kernel_rfl

end Go.Proofs.YtiakjdcognckpaaE

/-! The law of a call that a half clears. -/
namespace Go.Proofs.YtiakjdcognckpaaE
open Go Go.RowKit
set_option linter.unusedSimpArgs false
set_option linter.unusedVariables false
set_option maxRecDepth 20000
set_option maxHeartbeats 4000000

def spRunDuU : Spec := ⟨fun _ _ => [], fun args objs K => match args, objs with
  | [.agg [.v (.int .i64 a), .v (.int .i64 x), .v (.int .i64 b), .v (.int .i64 y), w], .rs .ev l], [] =>
      rowsK .sig [] w fun q => (q.length ≤ 1099511627776 ∧ l.length ≤ 1099511627776) ∧ K (duA (runDu ⟨a, x, b, y, q⟩ l)) (duL (runDu ⟨a, x, b, y, q⟩ l)) 1
  | _, _ => False, false⟩
theorem spRunDuU_t {L : Hp} {a : List AVal} : Spec.take spRunDuU L a = [] := id rfl
theorem spRunDuU_k : Spec.keep spRunDuU = false := id rfl
theorem spRunDuU_f {a} {x} {b} {y} {w} {l} {K : AVal → Hp → Nat → Prop} : Spec.f spRunDuU ([.agg [.v (.int .i64 a), .v (.int .i64 x), .v (.int .i64 b), .v (.int .i64 y), w], .rs .ev l]) ([]) K = (rowsK .sig [] w fun q => (q.length ≤ 1099511627776 ∧ l.length ≤ 1099511627776) ∧ K (duA (runDu ⟨a, x, b, y, q⟩ l)) (duL (runDu ⟨a, x, b, y, q⟩ l)) 1) := id rfl
theorem toRU {f : Nat} (hv : Valid Try.prog f spRunDu) : Valid Try.prog f spRunDuU := by
  intro W C ρ args vals objs K hd hp h
  simp only [spRunDuU] at h
  split at h
  · rename_i a x b y w l
    unfold rowsK at h
    split at h
    · rename_i t' xs
      obtain rfl := castK_eq h
      have h := castK_same h
      exact hv W C ρ _ vals _ K hd hp h
    · simp [lk] at h
    · obtain ⟨v0, r0, rfl, d0, e0⟩ := hd.cons_inv
      exact hv W C ρ _ _ _ K (DenL.cons (den_nil5 (t := .sig) d0) e0) hp h
    · exact h.elim
  · exact h.elim
theorem valid25U : Valid Try.prog 25 spRunDuU := toRU valid25
theorem valid27U : Valid Try.prog 27 spRunDuU := toRU valid27
def atV (code : List Int) : Int := if 0 < code.length then code.getD 0 0 else (code.length : Int).tmod 256
def spAt0 : Spec := ⟨fun _ _ => [], fun args objs K => match args, objs with
  | [.rs .byte code, .v (.int .i64 i)], [] => (i = 0 ∧ code.length ≤ 1048576 ∧ ∀ x ∈ code, 0 ≤ x ∧ x ≤ 255) ∧ K (.v (.int .i64 (atV code))) [] 0
  | _, _ => False, false⟩
theorem spAt0_t {L : Hp} {a : List AVal} : Spec.take spAt0 L a = [] := id rfl
theorem spAt0_k : Spec.keep spAt0 = false := id rfl
theorem spAt0_f {code} {i} {K : AVal → Hp → Nat → Prop} : Spec.f spAt0 ([.rs .byte code, .v (.int .i64 i)]) ([]) K = ((i = 0 ∧ code.length ≤ 1048576 ∧ ∀ x ∈ code, 0 ≤ x ∧ x ≤ 255) ∧ K (.v (.int .i64 (atV code))) [] 0) := id rfl
theorem getD_byte {code : List Int} (h : ∀ x ∈ code, 0 ≤ x ∧ x ≤ 255) (i : Nat) : 0 ≤ code.getD i 0 ∧ code.getD i 0 ≤ 255 := by
  by_cases hi : i < code.length
  · rw [List.getD_eq_getElem?_getD, List.getElem?_eq_getElem hi]
    exact h _ (List.getElem_mem hi)
  · rw [List.getD_eq_getElem?_getD, List.getElem?_eq_none (by omega)]
    simp
theorem atV_bd {code : List Int} (h : ∀ x ∈ code, 0 ≤ x ∧ x ≤ 255) : 0 ≤ atV code := by
  unfold atV
  split
  · exact (getD_byte h 0).1
  · exact Int.tmod_nonneg _ (by omega)
theorem valid35 : Valid Try.prog 35 spAt0 := by
  refine validI (Γ := lk []) Try.func35 bod35 low35 res35 (good_of trivial) ?_
  intro E args objs K hh hE hG hP
  simp only [spAt0, atV] at hh
  split at hh
  · refine ⟨by simp [Try.ntmps35], ?_⟩
    rename_i code i
    obtain ⟨⟨rfl, b1, hb⟩, hh⟩ := hh
    have hg := getD_byte hb 0
    have hw : wr .i64 (code.getD 0 0) = code.getD 0 0 := wrap_id (by omega) (by omega)
    have hw2 : wr .i64 (0 + (code.length : Int)) = (code.length : Int) := by rw [wrap_id (by omega) (by omega)]; omega
    have hw3 : wr .i64 0 = 0 := wrap_id (by omega) (by omega)
    by_cases h1 : 0 < code.length
    · have h1e : ((0 : Int) < (code.length : Int)) = True := by apply eq_true; omega
      rw [if_pos h1] at hh
      simp (config := { maxSteps := 2000000 }) only [go_sem, hG, hP, Nat.reduceEqDiff, ↓reduceIte, reduceCtorEq, Nat.reduceAdd, Nat.reduceSub, Nat.reduceMul, Nat.reduceLT, Nat.reduceLeDiff, Int.reduceAdd, Int.reduceSub, Int.reduceMul, Int.reduceLT, Int.reduceLE, Int.reduceEq, Int.reduceNeg, Int.reduceNe, Int.reduceGE, Int.reduceGT, Nat.reduceBEq, Int.reduceToNat,  hw, h1e]
      repeat (refine And.intro (by first | omega | (simp; done) | (simp; omega) | (unfold appRoom; omega)) ?_)
      refine ⟨_, _, _, ?_, hh⟩
      simp (config := { maxSteps := 2000000 }) only [go_sem, hG, hP, Nat.reduceEqDiff, ↓reduceIte, reduceCtorEq, Nat.reduceAdd, Nat.reduceSub, Nat.reduceMul, Nat.reduceLT, Nat.reduceLeDiff, Int.reduceAdd, Int.reduceSub, Int.reduceMul, Int.reduceLT, Int.reduceLE, Int.reduceEq, Int.reduceNeg, Int.reduceNe, Int.reduceGE, Int.reduceGT, Nat.reduceBEq, Int.reduceToNat]
    · have h1e : ((0 : Int) < (code.length : Int)) = False := by apply eq_false; omega
      rw [if_neg h1] at hh
      simp (config := { maxSteps := 2000000 }) only [go_sem, hG, hP, Nat.reduceEqDiff, ↓reduceIte, reduceCtorEq, Nat.reduceAdd, Nat.reduceSub, Nat.reduceMul, Nat.reduceLT, Nat.reduceLeDiff, Int.reduceAdd, Int.reduceSub, Int.reduceMul, Int.reduceLT, Int.reduceLE, Int.reduceEq, Int.reduceNeg, Int.reduceNe, Int.reduceGE, Int.reduceGT, Nat.reduceBEq, Int.reduceToNat,  h1e, hw3, hw2]
      repeat (refine And.intro (by first | omega | (simp; done) | (simp; omega) | (unfold appRoom; omega)) ?_)
      refine ⟨_, _, _, ?_, hh⟩
      simp (config := { maxSteps := 2000000 }) only [go_sem, hG, hP, Nat.reduceEqDiff, ↓reduceIte, reduceCtorEq, Nat.reduceAdd, Nat.reduceSub, Nat.reduceMul, Nat.reduceLT, Nat.reduceLeDiff, Int.reduceAdd, Int.reduceSub, Int.reduceMul, Int.reduceLT, Int.reduceLE, Int.reduceEq, Int.reduceNeg, Int.reduceNe, Int.reduceGE, Int.reduceGT, Nat.reduceBEq, Int.reduceToNat]
  · exact hh.elim
theorem doEv_start {x b y : Int} (h : duOk ⟨0, x, b, y, []⟩ = true) (hx : x < 1000) : doEv ⟨0, x, b, y, []⟩ 1 0 = (⟨1, x + 1, b, y, [⟨1, 1, x + 1⟩]⟩, true) := by
  have h2 : evOk ⟨0, x, b, y, []⟩ 1 0 = true := by unfold evOk; rw [if_pos rfl]; exact decide_eq_true ⟨rfl, rfl, hx⟩
  have h3 : evD ⟨0, x, b, y, []⟩ 1 0 = ⟨1, x + 1, b, y, [⟨1, 1, x + 1⟩]⟩ := by unfold evD; rw [h2, if_neg (by simp), if_pos rfl]; rfl
  rw [doEv_yes h h2 (by rw [h3]; simp), h3]
theorem doEv_clear {d g : Du} {p : Int} (h : doEv d 3 p = (g, true)) : g = cleared d p := by
  unfold doEv at h
  split at h
  · rename_i hc
    simp only [Bool.and_eq_true] at hc
    cases h
    unfold evD
    rw [hc.1.2, if_neg (by simp), if_neg (by decide), if_neg (by decide), if_pos rfl]
  · cases h
def spLaw8 : Spec := ⟨fun _ _ => [], fun args objs K => match args, objs with
  | [.rs .byte code], [] => (∀ x ∈ code, 0 ≤ x ∧ x ≤ 255) ∧ K (.v (.bool true)) [] 0
  | _, _ => False, false⟩
theorem spLaw8_t {L : Hp} {a : List AVal} : Spec.take spLaw8 L a = [] := id rfl
theorem spLaw8_k : Spec.keep spLaw8 = false := id rfl
theorem spLaw8_f {code} {K : AVal → Hp → Nat → Prop} : Spec.f spLaw8 ([.rs .byte code]) ([]) K = ((∀ x ∈ code, 0 ≤ x ∧ x ≤ 255) ∧ K (.v (.bool true)) [] 0) := id rfl
theorem valid8 : Valid Try.prog 8 spLaw8 := by
  refine validI (Γ := lk [(30, spBig), (31, spDay), (23, spDoEvU), (21, spDoEv), (32, spDuOk), (17, spSettle), (25, spRunDuU), (27, spRunDuU), (35, spAt0)]) Try.func8 bod8 low8 res8 (good_of ⟨⟨cal30, valid30⟩, ⟨cal31, valid31⟩, ⟨cal23, valid23U⟩, ⟨cal21, valid21⟩, ⟨cal32, valid32⟩, ⟨cal17, valid17⟩, ⟨cal25, valid25U⟩, ⟨cal27, valid27U⟩, ⟨cal35, valid35⟩, trivial⟩) ?_
  intro E args objs K h hE hG hP
  simp only [spLaw8] at h
  split at h
  · refine ⟨by simp [Try.ntmps8], ?_⟩
    rename_i code
    obtain ⟨hby, h⟩ := h
    by_cases hbig : (code.length : Int) > 1048576
    · have hbe := eq_true hbig
      simp (config := { maxSteps := 2000000 }) only [go_sem, hG, hP, Nat.reduceEqDiff, ↓reduceIte, reduceCtorEq, Nat.reduceAdd, Nat.reduceSub, Nat.reduceMul, Nat.reduceLT, Nat.reduceLeDiff, Int.reduceAdd, Int.reduceSub, Int.reduceMul, Int.reduceLT, Int.reduceLE, Int.reduceEq, Int.reduceNeg, Int.reduceNe, Int.reduceGE, Int.reduceGT, Nat.reduceBEq, Int.reduceToNat,  spBig_f, spBig_t, spBig_k, hbe]
      refine ⟨_, _, _, ?_, h⟩
      simp (config := { maxSteps := 2000000 }) only [go_sem, hG, hP, Nat.reduceEqDiff, ↓reduceIte, reduceCtorEq, Nat.reduceAdd, Nat.reduceSub, Nat.reduceMul, Nat.reduceLT, Nat.reduceLeDiff, Int.reduceAdd, Int.reduceSub, Int.reduceMul, Int.reduceLT, Int.reduceLE, Int.reduceEq, Int.reduceNeg, Int.reduceNe, Int.reduceGE, Int.reduceGT, Nat.reduceBEq, Int.reduceToNat]
    · have hbe := eq_false hbig
      have hdl := dayE_len code
      rcases hr : runDu ⟨0, 0, 0, 0, []⟩ (dayE code) with ⟨a, x, b, y, q⟩
      have hi : Inv ⟨a, x, b, y, q⟩ := by
        rw [← hr]; unfold runDu; rw [if_pos hdl]; exact inv_run inv_zero _
      have hok := hi.1
      have hl := (duOk_head hi.1).2
      have hH := (duOk_head hi.1).1
      unfold headP at hH
      dsimp only at hl hH
      have hv := atV_bd hby
      have hs1 : 0 ≤ (atV code).tmod 2 := Int.tmod_nonneg _ hv
      have hs2 : (atV code).tmod 2 < 2 := Int.tmod_lt_of_pos _ (by omega)
      have hsd : (atV code).tmod 2 = 0 ∨ (atV code).tmod 2 = 1 := by omega
      rcases hsd with hsd | hsd
      · rcases hdo : doEv ⟨a, x, b, y, q⟩ 3 0 with ⟨⟨a2, x2, b2, y2, q2⟩, ok⟩
        cases ok
        · simp (config := { maxSteps := 2000000 }) only [go_sem, hG, hP, Nat.reduceEqDiff, ↓reduceIte, reduceCtorEq, Nat.reduceAdd, Nat.reduceSub, Nat.reduceMul, Nat.reduceLT, Nat.reduceLeDiff, Int.reduceAdd, Int.reduceSub, Int.reduceMul, Int.reduceLT, Int.reduceLE, Int.reduceEq, Int.reduceNeg, Int.reduceNe, Int.reduceGE, Int.reduceGT, Nat.reduceBEq, Int.reduceToNat,  spBig_f, spBig_t, spBig_k, spDay_f, spDay_t, spDay_k, spDoEvU_f, spDoEvU_t, spDoEvU_k, spDoEv_f, spDoEv_t, spDoEv_k, spDuOk_f, spDuOk_t, spDuOk_k, spSettle_f, spSettle_t, spSettle_k, spRunDuU_f, spRunDuU_t, spRunDuU_k, spAt0_f, spAt0_t, spAt0_k, duA_eq, duL_eq, hbe, hr, hok, hsd, hdo, doEv_first, bb_self]
          repeat' (first | (refine And.intro ?_ ?_) | (with_reducible intro _))
          all_goals first | omega | (exact (hby _ (by assumption)).1) | (exact (hby _ (by assumption)).2) | (refine ⟨_, _, _, ?_, h⟩; simp (config := { maxSteps := 2000000 }) only [go_sem, hG, hP, Nat.reduceEqDiff, ↓reduceIte, reduceCtorEq, Nat.reduceAdd, Nat.reduceSub, Nat.reduceMul, Nat.reduceLT, Nat.reduceLeDiff, Int.reduceAdd, Int.reduceSub, Int.reduceMul, Int.reduceLT, Int.reduceLE, Int.reduceEq, Int.reduceNeg, Int.reduceNe, Int.reduceGE, Int.reduceGT, Nat.reduceBEq, Int.reduceToNat]; all_goals (first | (simp; done) | omega | (simp; omega)))
        · have hi2 : Inv ⟨a2, x2, b2, y2, q2⟩ := by have := doEv_inv (k := 3) (p := 0) hi; rw [hdo] at this; exact this
          have hc := doEv_clear hdo
          unfold cleared at hc
          rw [if_pos rfl] at hc
          injection hc with c1 c2 c3 c4 c5
          dsimp only at c1 c2 c3 c4
          have hH2 := (duOk_head hi2.1).1
          unfold headP at hH2
          dsimp only at hH2
          have hi3 := (settle3_all hi2).2.2.2
          have hq3 := (settle3_all hi2).2.1
          have hl2 := (duOk_head hi2.1).2
          dsimp only at hl2
          have ho := over0 hi2 (.inl c1)
          rcases hs : settleD ⟨a2, x2, b2, y2, q2⟩ 3 with ⟨a3, x3, b3, y3, q3⟩
          rw [hs] at ho hi3 hq3
          dsimp only at ho hq3
          obtain ⟨o1, o2, o3, o4⟩ := ho
          subst o1 o2 hq3
          rw [o3, o4] at hi3 hs
          have hlt : (x2 < x2) = False := by apply eq_false; omega
          have hw : wr .i64 (x2 + 1) = x2 + 1 := wrap_id (by omega) (by omega)
          by_cases hx : x2 ≥ 1000
          · have hxe := eq_true hx
            simp (config := { maxSteps := 2000000 }) only [go_sem, hG, hP, Nat.reduceEqDiff, ↓reduceIte, reduceCtorEq, Nat.reduceAdd, Nat.reduceSub, Nat.reduceMul, Nat.reduceLT, Nat.reduceLeDiff, Int.reduceAdd, Int.reduceSub, Int.reduceMul, Int.reduceLT, Int.reduceLE, Int.reduceEq, Int.reduceNeg, Int.reduceNe, Int.reduceGE, Int.reduceGT, Nat.reduceBEq, Int.reduceToNat,  spBig_f, spBig_t, spBig_k, spDay_f, spDay_t, spDay_k, spDoEvU_f, spDoEvU_t, spDoEvU_k, spDoEv_f, spDoEv_t, spDoEv_k, spDuOk_f, spDuOk_t, spDuOk_k, spSettle_f, spSettle_t, spSettle_k, spRunDuU_f, spRunDuU_t, spRunDuU_k, spAt0_f, spAt0_t, spAt0_k, duA_eq, duL_eq, hbe, hr, hok, hsd, hdo, doEv_first, bb_self, hs, hlt, hxe, hw]
            repeat' (first | (refine And.intro ?_ ?_) | (with_reducible intro _))
            all_goals try first | omega | (exact (hby _ (by assumption)).1) | (exact (hby _ (by assumption)).2)
            refine unrollI hE [(), (), ()] ?_
            simp (config := { maxSteps := 2000000 }) only [go_sem, hG, hP, Nat.reduceEqDiff, ↓reduceIte, reduceCtorEq, Nat.reduceAdd, Nat.reduceSub, Nat.reduceMul, Nat.reduceLT, Nat.reduceLeDiff, Int.reduceAdd, Int.reduceSub, Int.reduceMul, Int.reduceLT, Int.reduceLE, Int.reduceEq, Int.reduceNeg, Int.reduceNe, Int.reduceGE, Int.reduceGT, Nat.reduceBEq, Int.reduceToNat,  spBig_f, spBig_t, spBig_k, spDay_f, spDay_t, spDay_k, spDoEvU_f, spDoEvU_t, spDoEvU_k, spDoEv_f, spDoEv_t, spDoEv_k, spDuOk_f, spDuOk_t, spDuOk_k, spSettle_f, spSettle_t, spSettle_k, spRunDuU_f, spRunDuU_t, spRunDuU_k, spAt0_f, spAt0_t, spAt0_k, duA_eq, duL_eq, hbe, hr, hok, hsd, hdo, doEv_first, bb_self, hs, hlt, hxe, hw]
            repeat' (first | (refine And.intro ?_ ?_) | (with_reducible intro _))
            all_goals first | omega | (exact (hby _ (by assumption)).1) | (exact (hby _ (by assumption)).2) | (refine ⟨_, _, _, ?_, h⟩; simp (config := { maxSteps := 2000000 }) only [go_sem, hG, hP, Nat.reduceEqDiff, ↓reduceIte, reduceCtorEq, Nat.reduceAdd, Nat.reduceSub, Nat.reduceMul, Nat.reduceLT, Nat.reduceLeDiff, Int.reduceAdd, Int.reduceSub, Int.reduceMul, Int.reduceLT, Int.reduceLE, Int.reduceEq, Int.reduceNeg, Int.reduceNe, Int.reduceGE, Int.reduceGT, Nat.reduceBEq, Int.reduceToNat]; all_goals (first | (simp; done) | omega | (simp; omega)))
          · have hxe := eq_false hx
            have hst := doEv_start hi3.1 (by omega)
            simp (config := { maxSteps := 2000000 }) only [go_sem, hG, hP, Nat.reduceEqDiff, ↓reduceIte, reduceCtorEq, Nat.reduceAdd, Nat.reduceSub, Nat.reduceMul, Nat.reduceLT, Nat.reduceLeDiff, Int.reduceAdd, Int.reduceSub, Int.reduceMul, Int.reduceLT, Int.reduceLE, Int.reduceEq, Int.reduceNeg, Int.reduceNe, Int.reduceGE, Int.reduceGT, Nat.reduceBEq, Int.reduceToNat,  spBig_f, spBig_t, spBig_k, spDay_f, spDay_t, spDay_k, spDoEvU_f, spDoEvU_t, spDoEvU_k, spDoEv_f, spDoEv_t, spDoEv_k, spDuOk_f, spDuOk_t, spDuOk_k, spSettle_f, spSettle_t, spSettle_k, spRunDuU_f, spRunDuU_t, spRunDuU_k, spAt0_f, spAt0_t, spAt0_k, duA_eq, duL_eq, hbe, hr, hok, hsd, hdo, doEv_first, bb_self, hs, hlt, hxe, hst, hw]
            repeat' (first | (refine And.intro ?_ ?_) | (with_reducible intro _))
            all_goals try first | omega | (exact (hby _ (by assumption)).1) | (exact (hby _ (by assumption)).2)
            refine unrollI hE [(), (), ()] ?_
            simp (config := { maxSteps := 2000000 }) only [go_sem, hG, hP, Nat.reduceEqDiff, ↓reduceIte, reduceCtorEq, Nat.reduceAdd, Nat.reduceSub, Nat.reduceMul, Nat.reduceLT, Nat.reduceLeDiff, Int.reduceAdd, Int.reduceSub, Int.reduceMul, Int.reduceLT, Int.reduceLE, Int.reduceEq, Int.reduceNeg, Int.reduceNe, Int.reduceGE, Int.reduceGT, Nat.reduceBEq, Int.reduceToNat,  spBig_f, spBig_t, spBig_k, spDay_f, spDay_t, spDay_k, spDoEvU_f, spDoEvU_t, spDoEvU_k, spDoEv_f, spDoEv_t, spDoEv_k, spDuOk_f, spDuOk_t, spDuOk_k, spSettle_f, spSettle_t, spSettle_k, spRunDuU_f, spRunDuU_t, spRunDuU_k, spAt0_f, spAt0_t, spAt0_k, duA_eq, duL_eq, hbe, hr, hok, hsd, hdo, doEv_first, bb_self, hs, hlt, hxe, hst, hw]
            repeat' (first | (refine And.intro ?_ ?_) | (with_reducible intro _))
            all_goals first | omega | (exact (hby _ (by assumption)).1) | (exact (hby _ (by assumption)).2) | (refine ⟨_, _, _, ?_, h⟩; simp (config := { maxSteps := 2000000 }) only [go_sem, hG, hP, Nat.reduceEqDiff, ↓reduceIte, reduceCtorEq, Nat.reduceAdd, Nat.reduceSub, Nat.reduceMul, Nat.reduceLT, Nat.reduceLeDiff, Int.reduceAdd, Int.reduceSub, Int.reduceMul, Int.reduceLT, Int.reduceLE, Int.reduceEq, Int.reduceNeg, Int.reduceNe, Int.reduceGE, Int.reduceGT, Nat.reduceBEq, Int.reduceToNat]; all_goals (first | (simp; done) | omega | (simp; omega)))
      · rcases hdo : doEv ⟨a, x, b, y, q⟩ 3 1 with ⟨⟨a2, x2, b2, y2, q2⟩, ok⟩
        cases ok
        · simp (config := { maxSteps := 2000000 }) only [go_sem, hG, hP, Nat.reduceEqDiff, ↓reduceIte, reduceCtorEq, Nat.reduceAdd, Nat.reduceSub, Nat.reduceMul, Nat.reduceLT, Nat.reduceLeDiff, Int.reduceAdd, Int.reduceSub, Int.reduceMul, Int.reduceLT, Int.reduceLE, Int.reduceEq, Int.reduceNeg, Int.reduceNe, Int.reduceGE, Int.reduceGT, Nat.reduceBEq, Int.reduceToNat,  spBig_f, spBig_t, spBig_k, spDay_f, spDay_t, spDay_k, spDoEvU_f, spDoEvU_t, spDoEvU_k, spDoEv_f, spDoEv_t, spDoEv_k, spDuOk_f, spDuOk_t, spDuOk_k, spSettle_f, spSettle_t, spSettle_k, spRunDuU_f, spRunDuU_t, spRunDuU_k, spAt0_f, spAt0_t, spAt0_k, duA_eq, duL_eq, hbe, hr, hok, hsd, hdo, doEv_first, bb_self]
          repeat' (first | (refine And.intro ?_ ?_) | (with_reducible intro _))
          all_goals first | omega | (exact (hby _ (by assumption)).1) | (exact (hby _ (by assumption)).2) | (refine ⟨_, _, _, ?_, h⟩; simp (config := { maxSteps := 2000000 }) only [go_sem, hG, hP, Nat.reduceEqDiff, ↓reduceIte, reduceCtorEq, Nat.reduceAdd, Nat.reduceSub, Nat.reduceMul, Nat.reduceLT, Nat.reduceLeDiff, Int.reduceAdd, Int.reduceSub, Int.reduceMul, Int.reduceLT, Int.reduceLE, Int.reduceEq, Int.reduceNeg, Int.reduceNe, Int.reduceGE, Int.reduceGT, Nat.reduceBEq, Int.reduceToNat]; all_goals (first | (simp; done) | omega | (simp; omega)))
        · have hi2 : Inv ⟨a2, x2, b2, y2, q2⟩ := by have := doEv_inv (k := 3) (p := 1) hi; rw [hdo] at this; exact this
          have hc := doEv_clear hdo
          unfold cleared at hc
          rw [if_neg (by decide)] at hc
          injection hc with c1 c2 c3 c4 c5
          dsimp only at c1 c2 c3 c4
          have hH2 := (duOk_head hi2.1).1
          unfold headP at hH2
          dsimp only at hH2
          have hi3 := (settle3_all hi2).2.2.2
          have hq3 := (settle3_all hi2).2.1
          have hl2 := (duOk_head hi2.1).2
          dsimp only at hl2
          have ho := over1 (c := y2) hi2 ⟨Int.le_refl _, fun e => ⟨e, .inl c3⟩⟩ (by dsimp only; omega)
          rcases hs : settleD ⟨a2, x2, b2, y2, q2⟩ 3 with ⟨a3, x3, b3, y3, q3⟩
          rw [hs] at ho hi3 hq3
          dsimp only at ho hq3
          obtain ⟨o1, o2, o3, o4⟩ := ho
          subst hq3
          rw [o1] at hi3 hs
          have hw : wr .i64 (x2 + 1) = x2 + 1 := wrap_id (by omega) (by omega)
          by_cases ha : a3 = 0
          · subst ha
            by_cases hx : x2 ≥ 1000
            · have hxe := eq_true hx
              simp (config := { maxSteps := 2000000 }) only [go_sem, hG, hP, Nat.reduceEqDiff, ↓reduceIte, reduceCtorEq, Nat.reduceAdd, Nat.reduceSub, Nat.reduceMul, Nat.reduceLT, Nat.reduceLeDiff, Int.reduceAdd, Int.reduceSub, Int.reduceMul, Int.reduceLT, Int.reduceLE, Int.reduceEq, Int.reduceNeg, Int.reduceNe, Int.reduceGE, Int.reduceGT, Nat.reduceBEq, Int.reduceToNat,  spBig_f, spBig_t, spBig_k, spDay_f, spDay_t, spDay_k, spDoEvU_f, spDoEvU_t, spDoEvU_k, spDoEv_f, spDoEv_t, spDoEv_k, spDuOk_f, spDuOk_t, spDuOk_k, spSettle_f, spSettle_t, spSettle_k, spRunDuU_f, spRunDuU_t, spRunDuU_k, spAt0_f, spAt0_t, spAt0_k, duA_eq, duL_eq, hbe, hr, hok, hsd, hdo, doEv_first, bb_self, hs, hxe, hw]
              repeat' (first | (refine And.intro ?_ ?_) | (with_reducible intro _))
              all_goals try first | omega | (exact (hby _ (by assumption)).1) | (exact (hby _ (by assumption)).2)
              refine unrollI hE [(), (), ()] ?_
              simp (config := { maxSteps := 2000000 }) only [go_sem, hG, hP, Nat.reduceEqDiff, ↓reduceIte, reduceCtorEq, Nat.reduceAdd, Nat.reduceSub, Nat.reduceMul, Nat.reduceLT, Nat.reduceLeDiff, Int.reduceAdd, Int.reduceSub, Int.reduceMul, Int.reduceLT, Int.reduceLE, Int.reduceEq, Int.reduceNeg, Int.reduceNe, Int.reduceGE, Int.reduceGT, Nat.reduceBEq, Int.reduceToNat,  spBig_f, spBig_t, spBig_k, spDay_f, spDay_t, spDay_k, spDoEvU_f, spDoEvU_t, spDoEvU_k, spDoEv_f, spDoEv_t, spDoEv_k, spDuOk_f, spDuOk_t, spDuOk_k, spSettle_f, spSettle_t, spSettle_k, spRunDuU_f, spRunDuU_t, spRunDuU_k, spAt0_f, spAt0_t, spAt0_k, duA_eq, duL_eq, hbe, hr, hok, hsd, hdo, doEv_first, bb_self, hs, hxe, hw]
              repeat' (first | (refine And.intro ?_ ?_) | (with_reducible intro _))
              all_goals first | omega | (exact (hby _ (by assumption)).1) | (exact (hby _ (by assumption)).2) | (refine ⟨_, _, _, ?_, h⟩; simp (config := { maxSteps := 2000000 }) only [go_sem, hG, hP, Nat.reduceEqDiff, ↓reduceIte, reduceCtorEq, Nat.reduceAdd, Nat.reduceSub, Nat.reduceMul, Nat.reduceLT, Nat.reduceLeDiff, Int.reduceAdd, Int.reduceSub, Int.reduceMul, Int.reduceLT, Int.reduceLE, Int.reduceEq, Int.reduceNeg, Int.reduceNe, Int.reduceGE, Int.reduceGT, Nat.reduceBEq, Int.reduceToNat]; all_goals (first | (simp; done) | omega | (simp; omega)))
            · have hxe := eq_false hx
              have hst := doEv_start hi3.1 (by omega)
              simp (config := { maxSteps := 2000000 }) only [go_sem, hG, hP, Nat.reduceEqDiff, ↓reduceIte, reduceCtorEq, Nat.reduceAdd, Nat.reduceSub, Nat.reduceMul, Nat.reduceLT, Nat.reduceLeDiff, Int.reduceAdd, Int.reduceSub, Int.reduceMul, Int.reduceLT, Int.reduceLE, Int.reduceEq, Int.reduceNeg, Int.reduceNe, Int.reduceGE, Int.reduceGT, Nat.reduceBEq, Int.reduceToNat,  spBig_f, spBig_t, spBig_k, spDay_f, spDay_t, spDay_k, spDoEvU_f, spDoEvU_t, spDoEvU_k, spDoEv_f, spDoEv_t, spDoEv_k, spDuOk_f, spDuOk_t, spDuOk_k, spSettle_f, spSettle_t, spSettle_k, spRunDuU_f, spRunDuU_t, spRunDuU_k, spAt0_f, spAt0_t, spAt0_k, duA_eq, duL_eq, hbe, hr, hok, hsd, hdo, doEv_first, bb_self, hs, hxe, hst, hw]
              repeat' (first | (refine And.intro ?_ ?_) | (with_reducible intro _))
              all_goals try first | omega | (exact (hby _ (by assumption)).1) | (exact (hby _ (by assumption)).2)
              refine unrollI hE [(), (), ()] ?_
              simp (config := { maxSteps := 2000000 }) only [go_sem, hG, hP, Nat.reduceEqDiff, ↓reduceIte, reduceCtorEq, Nat.reduceAdd, Nat.reduceSub, Nat.reduceMul, Nat.reduceLT, Nat.reduceLeDiff, Int.reduceAdd, Int.reduceSub, Int.reduceMul, Int.reduceLT, Int.reduceLE, Int.reduceEq, Int.reduceNeg, Int.reduceNe, Int.reduceGE, Int.reduceGT, Nat.reduceBEq, Int.reduceToNat,  spBig_f, spBig_t, spBig_k, spDay_f, spDay_t, spDay_k, spDoEvU_f, spDoEvU_t, spDoEvU_k, spDoEv_f, spDoEv_t, spDoEv_k, spDuOk_f, spDuOk_t, spDuOk_k, spSettle_f, spSettle_t, spSettle_k, spRunDuU_f, spRunDuU_t, spRunDuU_k, spAt0_f, spAt0_t, spAt0_k, duA_eq, duL_eq, hbe, hr, hok, hsd, hdo, doEv_first, bb_self, hs, hxe, hst, hw]
              repeat' (first | (refine And.intro ?_ ?_) | (with_reducible intro _))
              all_goals first | omega | (exact (hby _ (by assumption)).1) | (exact (hby _ (by assumption)).2) | (refine ⟨_, _, _, ?_, h⟩; simp (config := { maxSteps := 2000000 }) only [go_sem, hG, hP, Nat.reduceEqDiff, ↓reduceIte, reduceCtorEq, Nat.reduceAdd, Nat.reduceSub, Nat.reduceMul, Nat.reduceLT, Nat.reduceLeDiff, Int.reduceAdd, Int.reduceSub, Int.reduceMul, Int.reduceLT, Int.reduceLE, Int.reduceEq, Int.reduceNeg, Int.reduceNe, Int.reduceGE, Int.reduceGT, Nat.reduceBEq, Int.reduceToNat]; all_goals (first | (simp; done) | omega | (simp; omega)))
          · have hae := eq_false ha
            simp (config := { maxSteps := 2000000 }) only [go_sem, hG, hP, Nat.reduceEqDiff, ↓reduceIte, reduceCtorEq, Nat.reduceAdd, Nat.reduceSub, Nat.reduceMul, Nat.reduceLT, Nat.reduceLeDiff, Int.reduceAdd, Int.reduceSub, Int.reduceMul, Int.reduceLT, Int.reduceLE, Int.reduceEq, Int.reduceNeg, Int.reduceNe, Int.reduceGE, Int.reduceGT, Nat.reduceBEq, Int.reduceToNat,  spBig_f, spBig_t, spBig_k, spDay_f, spDay_t, spDay_k, spDoEvU_f, spDoEvU_t, spDoEvU_k, spDoEv_f, spDoEv_t, spDoEv_k, spDuOk_f, spDuOk_t, spDuOk_k, spSettle_f, spSettle_t, spSettle_k, spRunDuU_f, spRunDuU_t, spRunDuU_k, spAt0_f, spAt0_t, spAt0_k, duA_eq, duL_eq, hbe, hr, hok, hsd, hdo, doEv_first, bb_self, hs, hae, hw]
            repeat' (first | (refine And.intro ?_ ?_) | (with_reducible intro _))
            all_goals try first | omega | (exact (hby _ (by assumption)).1) | (exact (hby _ (by assumption)).2)
            refine unrollI hE [(), (), ()] ?_
            simp (config := { maxSteps := 2000000 }) only [go_sem, hG, hP, Nat.reduceEqDiff, ↓reduceIte, reduceCtorEq, Nat.reduceAdd, Nat.reduceSub, Nat.reduceMul, Nat.reduceLT, Nat.reduceLeDiff, Int.reduceAdd, Int.reduceSub, Int.reduceMul, Int.reduceLT, Int.reduceLE, Int.reduceEq, Int.reduceNeg, Int.reduceNe, Int.reduceGE, Int.reduceGT, Nat.reduceBEq, Int.reduceToNat,  spBig_f, spBig_t, spBig_k, spDay_f, spDay_t, spDay_k, spDoEvU_f, spDoEvU_t, spDoEvU_k, spDoEv_f, spDoEv_t, spDoEv_k, spDuOk_f, spDuOk_t, spDuOk_k, spSettle_f, spSettle_t, spSettle_k, spRunDuU_f, spRunDuU_t, spRunDuU_k, spAt0_f, spAt0_t, spAt0_k, duA_eq, duL_eq, hbe, hr, hok, hsd, hdo, doEv_first, bb_self, hs, hae, hw]
            repeat' (first | (refine And.intro ?_ ?_) | (with_reducible intro _))
            all_goals first | omega | (exact (hby _ (by assumption)).1) | (exact (hby _ (by assumption)).2) | (refine ⟨_, _, _, ?_, h⟩; simp (config := { maxSteps := 2000000 }) only [go_sem, hG, hP, Nat.reduceEqDiff, ↓reduceIte, reduceCtorEq, Nat.reduceAdd, Nat.reduceSub, Nat.reduceMul, Nat.reduceLT, Nat.reduceLeDiff, Int.reduceAdd, Int.reduceSub, Int.reduceMul, Int.reduceLT, Int.reduceLE, Int.reduceEq, Int.reduceNeg, Int.reduceNe, Int.reduceGE, Int.reduceGT, Nat.reduceBEq, Int.reduceToNat]; all_goals (first | (simp; done) | omega | (simp; omega)))
  · exact h.elim
end Go.Proofs.YtiakjdcognckpaaE

/-! What an argument of a law reads as, in the engine's words; and what a proved function gives a law. -/
namespace Go.Proofs.YtiakjdcognckpaaE
open Go Go.RowKit Go.ChangeShapes Go.WideShapes
set_option linter.unusedSimpArgs false
set_option linter.unusedVariables false

def nm0 : Nm := fun _ => none
def noC : CR := ⟨fun _ => False, fun _ => False, fun _ h => h⟩
/-- What type t's data read as, by d; ok: what is known of it. -/
def Tells (P : Program) (t : TypeId) {α : Type} (n : Nat) (d : α → List AVal) (ok : α → Prop) : Prop :=
  ∀ (H : Type) (enc : TypeId × Value → H) (W : World) (base : Nat) (spare : Nat → Bool) (held : Bool) (fuel : Nat) (cs : List Value) (x : DataW H × List MemPlace),
    DataW.trod enc P W base spare held fuel t cs = some x → (∀ b ∈ x.1.weights P t, b ≤ reachBytes) → ∃ y : α, (DenL W noC nm0 (d y) cs ∧ cs.length = n) ∧ ok y
def TellsF (P : Program) (fs : List Field) (off : Nat) {α : Type} (n : Nat) (d : α → List AVal) (ok : α → Prop) : Prop :=
  ∀ (H : Type) (enc : TypeId × Value → H) (W : World) (base : Nat) (spare : Nat → Bool) (held : Bool) (fuel : Nat) (cs : List Value) (xs : List (DataW H × List MemPlace)),
    (∀ (i : Nat) (f : Field), fs[i]? = some f → DataW.trod enc P W base spare held fuel f.type ((cs.drop f.offset).take (P.cellsOf f.type)) = xs[i]?) → xs.length = fs.length → cs.length = off + n →
    (∀ (i : Nat) (f : Field) x, fs[i]? = some f → xs[i]? = some x → ∀ b ∈ x.1.weights P f.type, b ≤ reachBytes) → ∃ y : α, (DenL W noC nm0 (d y) (cs.drop off)) ∧ ok y

theorem den1 {W : World} (v : Value) : DenL W noC nm0 [.v v] [v] := DenL.cons (.v v) .nil
theorem Tells.int {P : Program} {t : TypeId} {k : IntKind} (ht : P.underlying t = some (.int k)) : Tells P t 1 (fun n : Int => [.v (.int k n)]) (fun n => (Lit.int k n).wf = true) := by
  intro H enc W base spare held fuel cs x h _
  cases fuel with
  | zero => simp [DataW.trod] at h
  | succ m =>
    unfold DataW.trod at h
    rw [ht] at h
    split at h <;> simp_all
    obtain ⟨⟨_, h1⟩, _⟩ := h
    exact ⟨_, den1 _, h1⟩
theorem Tells.bool {P : Program} {t : TypeId} (ht : P.underlying t = some .bool) : Tells P t 1 (fun b : Bool => [.v (.bool b)]) (fun _ => True) := by
  intro H enc W base spare held fuel cs x h _
  cases fuel with
  | zero => simp [DataW.trod] at h
  | succ m =>
    unfold DataW.trod at h
    rw [ht] at h
    split at h <;> simp_all
    rename_i b
    cases b
    · exact .inl (den1 _)
    · exact .inr (den1 _)
theorem Tells.string {P : Program} {t : TypeId} (ht : P.underlying t = some .string) : Tells P t 1 (fun s : ByteArray => [.v (.string s)]) (fun s => s.size ≤ 140737488351232) := by
  intro H enc W base spare held fuel cs x h hw
  cases fuel with
  | zero => simp [DataW.trod] at h
  | succ m =>
    unfold DataW.trod at h
    rw [ht] at h
    split at h <;> simp_all
    obtain ⟨_, h2⟩ := h
    subst h2
    refine ⟨_, den1 _, ?_⟩
    have := hw _ (by simp only [DataW.weights]; exact List.mem_singleton.2 rfl)
    rw [Array.length_toList] at this
    exact this
theorem weights_all {H : Type} {P : Program} {e : TypeId} {ds : List (DataW H)} {d : DataW H} (hd : d ∈ ds) {b : Nat} (hb : b ∈ d.weights P e) : b ∈ DataW.weightsAll P e ds := by
  induction ds with
  | nil => cases hd
  | cons a r ih =>
    simp only [DataW.weightsAll, List.mem_append]
    rcases List.mem_cons.1 hd with rfl | hd
    · exact .inl hb
    · exact .inr (ih hd)
theorem Tells.slice {P : Program} {t e : TypeId} (ht : P.underlying t = some (.slice e)) {τ : Ty} {ok : τ.D → Prop} (he : Tells P e (sz τ) (enc τ) ok) (hs : P.cellsOf e = sz τ) {B : Nat} (hB : P.bytesOf e = B) :
    Tells P t 1 (fun xs : List τ.D => [.rs τ xs]) (fun xs => xs.length * B ≤ 140737488351232 ∧ xs.length ≤ maxLen ∧ ∀ x ∈ xs, ok x) := by
  intro H enc' W base spare held fuel cs x h hw
  rcases Go.Deep.open_slice ht h with ⟨rfl, rfl⟩ | ⟨a, len, cap, m, n, D, Pl, rfl, hb, hl, hm, hmm, rfl, hx⟩
  · exact ⟨[], ⟨DenL.cons (Den.rs (t := τ) (xs := []) (A := none) (c := 0) (fun _ => undef) (.inl (by simp)) (Nat.le_refl _) (fun i f x av hx => by simp at hx)) .nil, rfl⟩, by simp [maxLen]⟩
  · have hlm : len ≤ m := by rw [hmm]; split <;> omega
    have hel : ∀ i, i < len → ∃ y : τ.D, (∃ c, W.cells? base (a.add (i * P.cellsOf e)) (P.cellsOf e) = some c ∧ (DenL W noC nm0 (enc τ y) c ∧ c.length = sz τ)) ∧ ok y := by
      intro i hi
      obtain ⟨c, hc, hd⟩ := hx i (by omega)
      obtain ⟨y, hy, hok⟩ := he H enc' W base spare held n c _ hd (fun b hb => hw b (by
        simp only [DataW.weights, ht, List.mem_cons, List.mem_append]
        exact .inr (.inl (weights_all (List.mem_map.2 ⟨i, List.mem_range.2 hi, rfl⟩) hb))))
      exact ⟨y, ⟨c, hc, hy⟩, hok⟩
    have : Inhabited τ.D := ⟨dflt τ⟩
    obtain ⟨f, hf⟩ := Go.Deep.choose_lt hel
    have hlen : ((List.range len).map f).length = len := by simp
    have hcell : ∀ i, i < len → ∃ c, DenL W noC nm0 (enc τ (f i)) c ∧ c.length = sz τ ∧ ∀ j, j < sz τ → W.cell? (a.add (i * sz τ + j)) = c[j]? := by
      intro i hi
      obtain ⟨⟨c, hc, hd, hcl⟩, _⟩ := hf i hi
      refine ⟨c, hd, hcl, fun j hj => ?_⟩
      have hc' := World.cells?_some hc
      rw [hs] at hc'
      have := hc'.2.2 j hj
      rw [← this, Go.Deep.add_add]
    have hall : ∀ k, k < len * sz τ → ∃ u, W.cell? (a.add k) = some u := by
      intro k hk
      have hz := sz_pos τ
      have hi : k / sz τ < len := Nat.div_lt_of_lt_mul (by rw [Nat.mul_comm]; exact hk)
      have hj : k % sz τ < sz τ := Nat.mod_lt _ hz
      obtain ⟨c, _, hcl, hc⟩ := hcell _ hi
      refine ⟨c[k % sz τ]'(by omega), ?_⟩
      have := hc _ hj
      rw [show k / sz τ * sz τ + k % sz τ = k by rw [Nat.mul_comm]; exact Nat.div_add_mod k (sz τ)] at this
      rw [this, List.getElem?_eq_getElem]
    refine ⟨(List.range len).map f, ⟨DenL.cons ?_ .nil, rfl⟩, ?_, by rw [hlen]; exact Nat.le_trans hl hm, ?_⟩
    · have key : Den W noC nm0 (.rs τ ((List.range len).map f)) (.slice (some a) ((List.range len).map f).length cap) := by
        refine .rs (fun k => (W.cell? (a.add k)).getD undef) ?_ (by rw [hlen]; exact hl) ?_
        · rw [hlen]
          rcases Nat.eq_zero_or_pos (len * sz τ) with h0 | hp
          · exact .inl h0
          · obtain ⟨u, hu⟩ := hall 0 hp
            refine .inr ⟨a, rfl, ?_, fun h => h, fun k hk => ?_⟩
            · have := World.block_lt_of_cell? _ _ hu
              simpa [Addr.add] using this
            · obtain ⟨u, hu⟩ := hall k hk
              simp [hu]
        · intro i j x av hx hav
          have hi : i < len := by
            have := (List.getElem?_eq_some_iff.1 hx).1
            rwa [hlen] at this
          have hx' : f i = x := by simpa [hi] using hx
          subst hx'
          obtain ⟨c, hd, hcl, hc⟩ := hcell i hi
          have hj : j < sz τ := by
            have := (List.getElem?_eq_some_iff.1 hav).1
            rwa [enc_length] at this
          have := hc j hj
          rw [this, List.getElem?_eq_getElem (by omega)]
          exact hd.2 j av _ hav (List.getElem?_eq_getElem (by omega))
      rw [hlen] at key
      exact key
    · rw [hlen]
      have := hw ((((List.range len).map D).length + ((List.range (m - len)).map fun j => D (len + j)).length) * P.bytesOf e) (by simp only [DataW.weights, ht]; exact List.mem_cons_self)
      rw [hB] at this
      simp only [List.length_map, List.length_range] at this
      have h2 : len * B ≤ (len + (m - len)) * B := Nat.mul_le_mul_right _ (by omega)
      unfold reachBytes at this
      omega
    · intro y hy
      obtain ⟨i, hi, rfl⟩ := List.mem_map.1 hy
      exact (hf i (List.mem_range.1 hi)).2
theorem TellsF.one {P : Program} {f : Field} {off n : Nat} {α : Type} {d : α → List AVal} {ok : α → Prop} (h : Tells P f.type n d ok) (ho : f.offset = off) (hc : P.cellsOf f.type = n) : TellsF P [f] off n d ok := by
  intro H enc W base spare held fuel cs xs hx hl hcs hw
  match xs, hl with
  | [x], _ =>
    have h0 := hx 0 f rfl
    rw [ho, hc, List.take_of_length_le (by rw [List.length_drop]; omega)] at h0
    obtain ⟨y, hy, hok⟩ := h H enc W base spare held fuel _ x h0 (hw 0 f x rfl rfl)
    exact ⟨y, hy.1, hok⟩
theorem TellsF.cons {P : Program} {f : Field} {fs : List Field} {off n n' : Nat} {α β : Type} {d : α → List AVal} {d' : β → List AVal} {ok : α → Prop} {ok' : β → Prop} (h : Tells P f.type n d ok) (ho : f.offset = off) (hc : P.cellsOf f.type = n)
    (r : TellsF P fs (off + n) n' d' ok') : TellsF P (f :: fs) off (n + n') (fun x : α × β => d x.1 ++ d' x.2) (fun x => ok x.1 ∧ ok' x.2) := by
  intro H enc W base spare held fuel cs xs hx hl hcs hw
  match xs, hl with
  | x :: xs, hl =>
    have h0 := hx 0 f rfl
    rw [ho, hc] at h0
    obtain ⟨y, hy, hok⟩ := h H enc W base spare held fuel _ x h0 (hw 0 f x rfl rfl)
    obtain ⟨y', hy', hok'⟩ := r H enc W base spare held fuel cs xs (fun i g hg => hx (i + 1) g hg) (by simpa using hl) (by omega) (fun i g z hg hz => hw (i + 1) g z hg hz)
    refine ⟨(y, y'), ?_, hok, hok'⟩
    have := hy.1.append hy'
    rw [← List.drop_drop, List.take_append_drop] at this
    exact this
theorem weights_each {H : Type} {P : Program} {fs : List Field} : ∀ {xs : List (DataW H × List MemPlace)} {i : Nat} {f : Field} {x : DataW H × List MemPlace}, fs[i]? = some f → xs[i]? = some x → ∀ b ∈ x.1.weights P f.type, b ∈ DataW.weightsEach P (fs.map (·.type)) (xs.map (·.1)) := by
  intro xs i f x hf hx b hb
  exact DataW.weights_mem_each (j := i) (t := f.type) (d := x.1) (by simp [hf]) (by simp [hx]) b hb
theorem Tells.struct {P : Program} {t : TypeId} {fs : Array Field} (ht : P.underlying t = some (.struct fs)) {α : Type} {n : Nat} {d : α → List AVal} {ok : α → Prop} (h : TellsF P fs.toList 0 n d ok) (hc : P.cellsOf t = n) : Tells P t n d ok := by
  intro H enc W base spare held fuel cs x hx hw
  obtain ⟨xs, m, _, rfl, hl, hlen, hf⟩ := DataW.trod_struct ht hx
  obtain ⟨y, hy, hok⟩ := h H enc W base spare held m cs xs (fun i f hi => hf i f (by rw [← Array.getElem?_toList]; exact hi)) (by simpa using hlen) (by omega) (fun i f x hi hx b hb => hw b (by
    simp only [DataW.weights, ht]
    exact weights_each hi hx b hb))
  exact ⟨y, ⟨by simpa using hy, by omega⟩, hok⟩
/-- An array's elements in line, as fields. -/
theorem Tells.array {P : Program} {t e : TypeId} {k : Nat} (ht : P.underlying t = some (.array k e)) {α : Type} {n : Nat} {d : α → List AVal} {ok : α → Prop} (h : TellsF P ((List.range k).map fun i => { name := "", type := e, offset := i * P.cellsOf e, embedded := false, tag := "", pkgPath := "", byteOffset := 0 }) 0 n d ok)
    (hc : P.cellsOf t = n) : Tells P t n d ok := by
  intro H enc W base spare held fuel cs x hx hw
  obtain ⟨xs, m, _, rfl, hl, hlen, hf⟩ := DataW.trod_array ht hx
  obtain ⟨y, hy, hok⟩ := h H enc W base spare held m cs xs (fun i f hi => by
      have hin : i < k := by
        rcases Nat.lt_or_ge i k with h | h
        · exact h
        · simp [h] at hi
      simp [hin] at hi
      subst hi
      exact hf i hin) (by simpa using hlen) (by omega) (fun i f x hi hx b hb => hw b (by
    have hin : i < k := by
      rcases Nat.lt_or_ge i k with h | h
      · exact h
      · simp [h] at hi
    simp [hin] at hi
    subst hi
    simp only [DataW.weights, ht]
    exact weights_all (List.mem_map.2 ⟨x, List.mem_iff_getElem?.2 ⟨i, hx⟩, rfl⟩) hb))
  exact ⟨y, ⟨by simpa using hy, by omega⟩, hok⟩
/-- The same data, told by another name. -/
theorem Tells.as {P : Program} {t : TypeId} {α β : Type} {n : Nat} {d : α → List AVal} {ok : α → Prop} (h : Tells P t n d ok) (g : α → β) (d' : β → List AVal) (hd : ∀ a, d' (g a) = d a) (ok' : β → Prop) (hok : ∀ a, ok a → ok' (g a)) : Tells P t n d' ok' := by
  intro H enc W base spare held fuel cs x hx hw
  obtain ⟨y, hy, hk⟩ := h H enc W base spare held fuel cs x hx hw
  exact ⟨g y, by rw [hd]; exact hy, hok y hk⟩
theorem okWide_agg {P : Program} {w : World} {r : Reach} {base : Nat} {t : TypeId} {v : Value} (ht : (∃ fs, P.underlying t = some (.struct fs)) ∨ ∃ n e, P.underlying t = some (.array n e)) (h : Value.okWide P w r base t v) : ∃ cs, v = .agg cs ∧ cs.size = P.cellsOf t := by
  rcases ht with ⟨fs, ht⟩ | ⟨n, e, ht⟩
  all_goals
    simp only [Value.okWide, ht] at h
    obtain ⟨cs, h1, h2, _⟩ := h
    exact ⟨cs, h1, h2⟩
section
variable {P : Program} {t : TypeId} {α : Type} {n : Nat} {d : α → List AVal} {ok : α → Prop} {H : Type} {enc : TypeId × Value → H} {W : World} {base : Nat} {spare : Nat → Bool} {held : Bool} {x : DataW H} {ps : List MemPlace} {ts : List TypeId} {ds : List (DataW H)}
/-- A struct (an array) that came in by value. -/
theorem Tells.agg (h : Tells P t n d ok) {cs : Array Value} (hsz : (DataW.weightsEach P ts ds).all (· ≤ reachBytes) = true) (j : Nat) (ht : ts[j]? = some t) (hd : ds[j]? = some x)
    (hx : DataW.Trod enc P W base spare held t (.agg cs) x ps) : ∃ y : α, Den W noC nm0 (.agg (d y)) (.agg cs) ∧ ok y := by
  obtain ⟨fuel, hf⟩ := hx
  have hf' : DataW.trod enc P W base spare held fuel t cs.toList = some (x, ps) := by simpa [Value.cells] using hf
  obtain ⟨y, ⟨hy, _⟩, hok⟩ := h H enc W base spare held fuel cs.toList (x, ps) hf' (fun b hb => by simpa using List.all_eq_true.1 hsz b (DataW.weights_mem_each ht hd b hb))
  exact ⟨y, .agg cs.toList hy.1 hy.2, hok⟩
/-- A value of one cell that came in. -/
theorem Tells.cell {f : α → AVal} (h : Tells P t 1 (fun y => [f y]) ok) {v : Value} (hv : v.cells = #[v]) (hsz : (DataW.weightsEach P ts ds).all (· ≤ reachBytes) = true) (j : Nat) (ht : ts[j]? = some t) (hd : ds[j]? = some x)
    (hx : DataW.Trod enc P W base spare held t v x ps) : ∃ y : α, Den W noC nm0 (f y) v ∧ ok y := by
  obtain ⟨fuel, hf⟩ := hx
  have hf' : DataW.trod enc P W base spare held fuel t [v] = some (x, ps) := by simpa [hv] using hf
  obtain ⟨y, ⟨hy, _⟩, hok⟩ := h H enc W base spare held fuel [v] (x, ps) hf' (fun b hb => by simpa using List.all_eq_true.1 hsz b (DataW.weights_mem_each ht hd b hb))
  exact ⟨y, hy.2 0 _ v rfl rfl, hok⟩
end
/-- A proved law at arguments that can only be read. -/
theorem law_ok {P : Program} {f : Nat} {sp : Spec} (hv : Valid P f sp) {W : World} {args : List AVal} {vals : List Value} (hd : DenL W noC nm0 args vals) (h : ∀ K : AVal → Hp → Nat → Prop, K (.v (.bool true)) [] 0 → sp.f args [] K) :
    Calls P f ⟨vals⟩ W fun e w' => e = .returned (.bool true) ∧ Below W.heap.size W w' := by
  refine Calls.mono (hv W noC nm0 args vals [] (fun r _ _ => r = .v (.bool true)) hd ?_ (h _ rfl)) ?_
  · exact ⟨fun m o h => (by cases h), fun m o m' o' b x b' x' h => (by cases h), fun m o b x h => (by cases h), fun m _ => rfl, rfl, rfl, rfl, Nat.le_refl _, fun b _ _ => rfl⟩
  · rintro e w' ⟨r, v, L', nx', ρ', rfl, hden, hp, _, hr⟩
    subst hr
    rw [den_v hden]
    exact ⟨rfl, hp.os, hp.tape, hp.output, hp.size, fun k hk => hp.old k hk (fun h => h)⟩
end Go.Proofs.YtiakjdcognckpaaE

/-! The law FnClearedBoth, as its row states it: whatever the input the law returns true; no condition. -/
namespace Go.Proofs.Ytiakjdcognckpaa.fnClearedBoth
open Go.ChangeShapes Go.WideShapes Go.ChangeAt Go.RowKit Go.Proofs.YtiakjdcognckpaaE
set_option linter.unusedVariables false
theorem own : ownKnob Try.prog.godebug = none := by kernel_rfl
theorem laidOut : laidOutB Try.prog = true := by kernel_rfl
theorem T5 : Tells Try.prog 5 (sz .byte) (enc .byte) (fun x : Int => 0 ≤ x ∧ x ≤ 255) := (Tells.int Try.underlying5).as (fun n : Int => n) (enc .byte) (fun _ => rfl) _ (fun n h => by
  simp [Lit.wf, IntKind.min, IntKind.max, IntKind.bits, IntKind.signed] at h
  omega)
theorem T61 : Tells Try.prog 61 1 (fun xs : List Int => [.rs .byte xs]) (fun xs => ∀ x ∈ xs, 0 ≤ x ∧ x ≤ 255) := (Tells.slice (τ := .byte) Try.underlying61 T5 (by kernel_rfl) (B := 1) (by kernel_rfl)).as id _ (fun _ => rfl) _ (fun xs h => h.2.2)
set_option maxRecDepth 100000 in
set_option maxHeartbeats 1000000 in
theorem lifted (os : Os) (started : os.Started) (H : Type) (enc : TypeId × Value → H) :
    ReturnsInHanded {} Try.checked os 8 .any (Rows.fnClearedBothSpec.pre6 enc Try.prog Try.f8 Rows.fnClearedBothRow.domain false) (Rows.fnClearedBothSpec.post enc Try.prog Try.f8 false true false false) := by
  refine returnsInHanded_of_change_sized (C := Try.checked) own started (by kernel_rfl) Try.func8
    (ChangeSpec.witness6 (enc := enc) (C := Try.checked) false ⟨#[], #[.slice none 0 0], []⟩ 8 (by kernel_rfl) (by kernel_rfl) (by kernel_rfl) (by kernel_rfl)) ?_
  intro W base args ds gs before hval0 hW hcnd hsz0 _
  have hsz : (DataW.weightsEach Try.prog (Try.f8.params.toList ++ Rows.fnClearedBothSpec.plain.varTypes Try.prog) (ds ++ gs)).all (· ≤ reachBytes) = true := hsz0
  have hval : ∀ (j : Nat) t v, Try.f8.params[j]? = some t → args[j]? = some v → Value.okWide Try.prog W .any base t v := hval0
  have hW' := hW
  obtain ⟨p, q, hA0, hV, rfl, hfz, hnd⟩ := hW
  have hA : DataW.TrodAll enc Try.prog W 0 (fun _ => true) true Try.f8.params.toList args.toList ds p := hA0
  rw [Try.params8] at hA hval hsz
  obtain ⟨v0, vs0, d0, ds0, p0, q0, hargs, rfl, rfl, h0, r0⟩ := trodAll_cons hA
  obtain ⟨rfl, rfl, rfl⟩ := trodAll_nil r0
  obtain rfl : args = #[v0] := by cases args; simp_all
  obtain ⟨rfl, rfl⟩ := trodVars_none hV
  obtain ⟨ax0, len0, cap0, rfl⟩ := okWide_slice Try.underlying61 (hval 0 61 v0 rfl rfl)
  have k0 := h0
  have lt0 : ∀ x ∈ p0, x.block < W.heap.size := by obtain ⟨m, hm⟩ := k0; exact DataW.trod_lt m _ _ _ hm
  obtain ⟨y0, hK0, o0⟩ := Tells.cell T61 rfl hsz 0 rfl rfl h0
  clear hA0 hval0 hsz0 hsz
  refine (law_ok valid8 (DenL.cons hK0 .nil) (fun K hk => ⟨o0, hk⟩)).mono fun e W' ⟨he, bel⟩ => ?_
  subst he
  exact ⟨_, rfl, _, _, _, [], _, [], hW', trodAll_mk1 (shut_bool Try.underlying4 _), (trodAll_cons_mk (Below.trod laidOut (by kernel_rfl) (of_decide_eq_true (by kernel_rfl)) k0 bel lt0) trodAll_mk0), rfl, bel.frame _, fun h => by cases h⟩
theorem over : Rows.fnClearedBothRow.holds Try.pinned (OpenSpec.ofChange Rows.fnClearedBothSpec) :=
  OpenClaim.holds_of_wide 8 Try.f8 rfl rfl rfl rfl rfl rfl rfl ⟨rfl, rfl, rfl, rfl, rfl⟩ rfl rfl rfl rfl rfl (by kernel_rfl) Try.func8 (by kernel_rfl)
    (of_decide_eq_true (by kernel_rfl)) (by unfold Func.isWrapper; first | (rw [if_pos (by decide +kernel)]; kernel_rfl) | (rw [if_neg (by decide +kernel)]; exact ⟨rfl, rfl⟩))
    (fun os started H enc _ => lifted os started H enc)
theorem proved : Rows.FnClearedBothSaid := over
#print axioms proved
end Go.Proofs.Ytiakjdcognckpaa.fnClearedBoth
namespace Go.Proofs.Ytiakjdcognckpaa
/-- The row, under a short name, for the claim. -/
theorem fnClearedBoth_holds : Rows.FnClearedBothSaid := fnClearedBoth.proved
end Go.Proofs.Ytiakjdcognckpaa
