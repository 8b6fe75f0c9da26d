/- A part of a proof that a law of the given program holds for every input: no condition. -/
import Derived.Test.YtnbfnpnephfjaaaProg
import Derived.KernelRfl
import Derived.Deep.Slices
import Derived.OpenShut
import Derived.SizedLaws
import Derived.WideLaws
import Derived.Test.YtnbfnpnephfjaaaRows
import Derived.ProofKit
import Derived.ShutString
import Derived.ChangeOld
import Derived.Below
import Derived.Test.YtnbfnpnephfjaaaKFnExactHeard2

set_option linter.unusedSimpArgs false
set_option linter.unusedVariables false
/-! The code of a function, in the engine's words. -/
namespace Go.Proofs.YtnbfnpnephfjaaaE
open Go Go.RowKit
@[reducible] def ic96 : IC := (.seq (.ops [⟨some 8, .mov (.tmp 1), none⟩, ⟨some 9, .bin .add (.tmp 8) (.const (.int .i64 1)), none⟩, ⟨some 6, .mov (.tmp 9), none⟩]) (.block 0 (.loop (.seq (.seq (.ops [⟨some 10, .mov (.tmp 6), none⟩, ⟨some 11, .mov (.tmp 2), none⟩, ⟨some 12, .bin .lss (.tmp 10) (.tmp 11), none⟩]) (.cond (.tmp 12) .skip (.exit 0))) (.seq (.block 1 (.seq (.ops [⟨some 15, .mov (.tmp 6), none⟩, ⟨some 7, .mov (.tmp 15), none⟩]) (.block 2 (.loop (.seq (.seq (.draw [⟨some 16, .mov (.tmp 7), none⟩, ⟨some 17, .mov (.tmp 1), none⟩, ⟨some 18, .bin .gtr (.tmp 16) (.tmp 17), none⟩, ⟨some 19, .mov (.tmp 18), none⟩, ⟨some 20, .mov (.tmp 0), some (19, true)⟩, ⟨some 21, .mov (.tmp 7), some (19, true)⟩, ⟨some 22, .iadr 1 (.tmp 20) (.tmp 21), some (19, true)⟩, ⟨some 23, .load 1 false (.tmp 22), some (19, true)⟩, ⟨some 24, .mov (.tmp 0), some (19, true)⟩, ⟨some 25, .mov (.tmp 7), some (19, true)⟩, ⟨some 26, .bin .sub (.tmp 25) (.const (.int .i64 1)), some (19, true)⟩, ⟨some 27, .iadr 1 (.tmp 24) (.tmp 26), some (19, true)⟩, ⟨some 28, .load 1 false (.tmp 27), some (19, true)⟩, ⟨some 29, .call 102 [(.tmp 23), (.tmp 28)], some (19, true)⟩, ⟨some 30, .pick (.tmp 19) (.tmp 29) (.const (.bool false)), none⟩] (.held ⟨some 16, .mov (.tmp 7), none⟩ (.held ⟨some 17, .mov (.tmp 1), none⟩ (.held ⟨some 18, .bin .gtr (.tmp 16) (.tmp 17), none⟩ (.held ⟨some 19, .mov (.tmp 18), none⟩ (.held ⟨some 20, .mov (.tmp 0), some (19, true)⟩ (.held ⟨some 21, .mov (.tmp 7), some (19, true)⟩ (.held ⟨some 22, .iadr 1 (.tmp 20) (.tmp 21), some (19, true)⟩ (.held ⟨some 23, .load 1 false (.tmp 22), some (19, true)⟩ (.held ⟨some 24, .mov (.tmp 0), some (19, true)⟩ (.held ⟨some 25, .mov (.tmp 7), some (19, true)⟩ (.held ⟨some 26, .bin .sub (.tmp 25) (.const (.int .i64 1)), some (19, true)⟩ (.held ⟨some 27, .iadr 1 (.tmp 24) (.tmp 26), some (19, true)⟩ (.held ⟨some 28, .load 1 false (.tmp 27), some (19, true)⟩ (.alt ⟨some 29, .call 102 [(.tmp 23), (.tmp 28)], some (19, true)⟩ (.held ⟨some 30, .pick (.tmp 19) (.tmp 29) (.const (.bool false)), none⟩ .done) .stop))))))))))))))) (.cond (.tmp 30) .skip (.exit 2))) (.seq (.block 3 (.draw [⟨some 33, .mov (.tmp 0), none⟩, ⟨some 34, .mov (.tmp 7), none⟩, ⟨some 35, .mov (.tmp 0), none⟩, ⟨some 36, .mov (.tmp 7), none⟩, ⟨some 37, .bin .sub (.tmp 36) (.const (.int .i64 1)), none⟩, ⟨some 38, .mov (.tmp 0), none⟩, ⟨some 39, .mov (.tmp 7), none⟩, ⟨some 40, .bin .sub (.tmp 39) (.const (.int .i64 1)), none⟩, ⟨some 41, .iadr 1 (.tmp 38) (.tmp 40), none⟩, ⟨some 42, .load 1 false (.tmp 41), none⟩, ⟨some 43, .mov (.tmp 0), none⟩, ⟨some 44, .mov (.tmp 7), none⟩, ⟨some 45, .iadr 1 (.tmp 43) (.tmp 44), none⟩, ⟨some 46, .load 1 false (.tmp 45), none⟩, ⟨some 47, .iadr 1 (.tmp 33) (.tmp 34), none⟩, ⟨none, .store 1 (.tmp 47) (.tmp 42), none⟩, ⟨some 48, .iadr 1 (.tmp 35) (.tmp 37), none⟩, ⟨none, .store 1 (.tmp 48) (.tmp 46), none⟩] (.held ⟨some 33, .mov (.tmp 0), none⟩ (.held ⟨some 34, .mov (.tmp 7), none⟩ (.held ⟨some 35, .mov (.tmp 0), none⟩ (.held ⟨some 36, .mov (.tmp 7), none⟩ (.held ⟨some 37, .bin .sub (.tmp 36) (.const (.int .i64 1)), none⟩ (.held ⟨some 38, .mov (.tmp 0), none⟩ (.held ⟨some 39, .mov (.tmp 7), none⟩ (.held ⟨some 40, .bin .sub (.tmp 39) (.const (.int .i64 1)), none⟩ (.held ⟨some 41, .iadr 1 (.tmp 38) (.tmp 40), none⟩ (.held ⟨some 42, .load 1 false (.tmp 41), none⟩ (.held ⟨some 43, .mov (.tmp 0), none⟩ (.held ⟨some 44, .mov (.tmp 7), none⟩ (.held ⟨some 45, .iadr 1 (.tmp 43) (.tmp 44), none⟩ (.held ⟨some 46, .load 1 false (.tmp 45), none⟩ (.held ⟨some 47, .iadr 1 (.tmp 33) (.tmp 34), none⟩ (.alt ⟨none, .store 1 (.tmp 47) (.tmp 42), none⟩ (.held ⟨some 48, .iadr 1 (.tmp 35) (.tmp 37), none⟩ (.alt ⟨none, .store 1 (.tmp 48) (.tmp 46), none⟩ .done .stop)) .stop)))))))))))))))))) (.ops [⟨some 31, .mov (.tmp 7), none⟩, ⟨some 32, .bin .sub (.tmp 31) (.const (.int .i64 1)), none⟩, ⟨some 7, .mov (.tmp 32), none⟩]))))))) (.ops [⟨some 13, .mov (.tmp 6), none⟩, ⟨some 14, .bin .add (.tmp 13) (.const (.int .i64 1)), none⟩, ⟨some 6, .mov (.tmp 14), none⟩]))))))
@[reducible] def rv96 : List RV := []
theorem low96 : lowC Try.prog tau Try.f96.ntmps (Try.f96.body.getD .skip) = some (erase ic96) := by kernel_rfl
theorem res96 : lowR Try.prog Try.f96.results.toList = some rv96 := by kernel_rfl
theorem bod96 : Try.f96.body = some (Try.f96.body.getD .skip) := by kernel_rfl
theorem cal96 : callable Try.prog 96 = true := by kernel_rfl

end Go.Proofs.YtnbfnpnephfjaaaE

/-! The code of a function, in the engine's words. -/
namespace Go.Proofs.YtnbfnpnephfjaaaE
open Go Go.RowKit
@[reducible] def ic91 : IC := (.seq (.ops [⟨some 8, .mov (.const (.bool true)), none⟩]) (.seq (.ops [⟨some 9, .mov (.const (.bool true)), none⟩]) (.block 0 (.loop (.block 1 (.seq (.ops [⟨some 19, .mov (.tmp 2), none⟩, ⟨some 20, .mov (.tmp 1), none⟩, ⟨some 21, .bin .sub (.tmp 19) (.tmp 20), none⟩, ⟨some 10, .mov (.tmp 21), none⟩]) (.seq (.seq (.ops [⟨some 22, .mov (.tmp 10), none⟩, ⟨some 23, .bin .leq (.tmp 22) (.const (.int .i64 12)), none⟩]) (.cond (.tmp 23) (.seq (.ops [⟨some 24, .mov (.tmp 0), none⟩, ⟨some 25, .mov (.tmp 1), none⟩, ⟨some 26, .mov (.tmp 2), none⟩, ⟨some 27, .call 96 [(.tmp 24), (.tmp 25), (.tmp 26)], none⟩]) .ret) .skip)) (.seq (.seq (.ops [⟨some 28, .mov (.tmp 3), none⟩, ⟨some 29, .bin .eql (.tmp 28) (.const (.int .i64 0)), none⟩]) (.cond (.tmp 29) (.seq (.ops [⟨some 30, .mov (.tmp 0), none⟩, ⟨some 31, .mov (.tmp 1), none⟩, ⟨some 32, .mov (.tmp 2), none⟩, ⟨some 33, .call 97 [(.tmp 30), (.tmp 31), (.tmp 32)], none⟩]) .ret) .skip)) (.seq (.seq (.ops [⟨some 34, .mov (.tmp 8), none⟩, ⟨some 35, .una .not (.tmp 34), none⟩]) (.cond (.tmp 35) (.seq (.ops [⟨some 36, .mov (.tmp 0), none⟩, ⟨some 37, .mov (.tmp 1), none⟩, ⟨some 38, .mov (.tmp 2), none⟩, ⟨some 39, .call 98 [(.tmp 36), (.tmp 37), (.tmp 38)], none⟩]) (.ops [⟨some 40, .mov (.tmp 3), none⟩, ⟨some 41, .bin .sub (.tmp 40) (.const (.int .i64 1)), none⟩, ⟨some 3, .mov (.tmp 41), none⟩])) .skip)) (.seq (.ops [⟨some 43, .mov (.tmp 0), none⟩, ⟨some 44, .mov (.tmp 1), none⟩, ⟨some 45, .mov (.tmp 2), none⟩, ⟨some 46, .call 99 [(.tmp 43), (.tmp 44), (.tmp 45)], none⟩, ⟨some 42, .mov (.tmp 46), none⟩, ⟨some 47, .ext (.tmp 42) 0, none⟩, ⟨some 48, .ext (.tmp 42) 1, none⟩, ⟨some 11, .mov (.tmp 47), none⟩, ⟨some 12, .mov (.tmp 48), none⟩]) (.seq (.seq (.ops [⟨some 49, .mov (.tmp 12), none⟩, ⟨some 50, .bin .eql (.tmp 49) (.const (.int .i64 2)), none⟩]) (.cond (.tmp 50) (.seq (.ops [⟨some 51, .mov (.tmp 0), none⟩, ⟨some 52, .mov (.tmp 1), none⟩, ⟨some 53, .mov (.tmp 2), none⟩, ⟨some 54, .call 100 [(.tmp 51), (.tmp 52), (.tmp 53)], none⟩]) (.seq (.ops [⟨some 55, .mov (.tmp 2), none⟩, ⟨some 56, .bin .sub (.tmp 55) (.const (.int .i64 1)), none⟩, ⟨some 57, .mov (.tmp 11), none⟩, ⟨some 58, .mov (.tmp 1), none⟩, ⟨some 59, .bin .sub (.tmp 57) (.tmp 58), none⟩, ⟨some 60, .bin .sub (.tmp 56) (.tmp 59), none⟩, ⟨some 11, .mov (.tmp 60), none⟩]) (.ops [⟨some 12, .mov (.const (.int .i64 1)), none⟩]))) .skip)) (.seq (.seq (.ops [⟨some 61, .mov (.tmp 8), none⟩, ⟨some 62, .mov (.tmp 61), none⟩, ⟨some 63, .mov (.tmp 9), some (62, true)⟩, ⟨some 64, .pick (.tmp 62) (.tmp 63) (.const (.bool false)), none⟩, ⟨some 65, .mov (.tmp 64), none⟩, ⟨some 66, .mov (.tmp 12), some (65, true)⟩, ⟨some 67, .bin .eql (.tmp 66) (.const (.int .i64 1)), some (65, true)⟩, ⟨some 68, .pick (.tmp 65) (.tmp 67) (.const (.bool false)), none⟩]) (.cond (.tmp 68) (.seq (.ops [⟨some 69, .mov (.tmp 0), none⟩, ⟨some 70, .mov (.tmp 1), none⟩, ⟨some 71, .mov (.tmp 2), none⟩, ⟨some 72, .call 101 [(.tmp 69), (.tmp 70), (.tmp 71)], none⟩]) (.cond (.tmp 72) .ret .skip)) .skip)) (.seq (.seq (.draw [⟨some 73, .mov (.tmp 1), none⟩, ⟨some 74, .bin .gtr (.tmp 73) (.const (.int .i64 0)), none⟩, ⟨some 75, .mov (.tmp 74), none⟩, ⟨some 76, .mov (.tmp 0), some (75, true)⟩, ⟨some 77, .mov (.tmp 1), some (75, true)⟩, ⟨some 78, .bin .sub (.tmp 77) (.const (.int .i64 1)), some (75, true)⟩, ⟨some 79, .iadr 1 (.tmp 76) (.tmp 78), some (75, true)⟩, ⟨some 80, .load 1 false (.tmp 79), some (75, true)⟩, ⟨some 81, .mov (.tmp 0), some (75, true)⟩, ⟨some 82, .mov (.tmp 11), some (75, true)⟩, ⟨some 83, .iadr 1 (.tmp 81) (.tmp 82), some (75, true)⟩, ⟨some 84, .load 1 false (.tmp 83), some (75, true)⟩, ⟨some 85, .call 102 [(.tmp 80), (.tmp 84)], some (75, true)⟩, ⟨some 86, .una .not (.tmp 85), some (75, true)⟩, ⟨some 87, .pick (.tmp 75) (.tmp 86) (.const (.bool false)), none⟩] (.held ⟨some 73, .mov (.tmp 1), none⟩ (.held ⟨some 74, .bin .gtr (.tmp 73) (.const (.int .i64 0)), none⟩ (.held ⟨some 75, .mov (.tmp 74), none⟩ (.held ⟨some 76, .mov (.tmp 0), some (75, true)⟩ (.held ⟨some 77, .mov (.tmp 1), some (75, true)⟩ (.held ⟨some 78, .bin .sub (.tmp 77) (.const (.int .i64 1)), some (75, true)⟩ (.held ⟨some 79, .iadr 1 (.tmp 76) (.tmp 78), some (75, true)⟩ (.held ⟨some 80, .load 1 false (.tmp 79), some (75, true)⟩ (.held ⟨some 81, .mov (.tmp 0), some (75, true)⟩ (.held ⟨some 82, .mov (.tmp 11), some (75, true)⟩ (.held ⟨some 83, .iadr 1 (.tmp 81) (.tmp 82), some (75, true)⟩ (.held ⟨some 84, .load 1 false (.tmp 83), some (75, true)⟩ (.alt ⟨some 85, .call 102 [(.tmp 80), (.tmp 84)], some (75, true)⟩ (.held ⟨some 86, .una .not (.tmp 85), some (75, true)⟩ (.held ⟨some 87, .pick (.tmp 75) (.tmp 86) (.const (.bool false)), none⟩ .done)) .stop)))))))))))))) (.cond (.tmp 87) (.seq (.ops [⟨some 88, .mov (.tmp 0), none⟩, ⟨some 89, .mov (.tmp 1), none⟩, ⟨some 90, .mov (.tmp 2), none⟩, ⟨some 91, .mov (.tmp 11), none⟩, ⟨some 92, .call 103 [(.tmp 88), (.tmp 89), (.tmp 90), (.tmp 91)], none⟩, ⟨some 13, .mov (.tmp 92), none⟩]) (.seq (.ops [⟨some 93, .mov (.tmp 13), none⟩, ⟨some 1, .mov (.tmp 93), none⟩]) (.exit 1))) .skip)) (.seq (.ops [⟨some 95, .mov (.tmp 0), none⟩, ⟨some 96, .mov (.tmp 1), none⟩, ⟨some 97, .mov (.tmp 2), none⟩, ⟨some 98, .mov (.tmp 11), none⟩, ⟨some 99, .call 104 [(.tmp 95), (.tmp 96), (.tmp 97), (.tmp 98)], none⟩, ⟨some 94, .mov (.tmp 99), none⟩, ⟨some 100, .ext (.tmp 94) 0, none⟩, ⟨some 101, .ext (.tmp 94) 1, none⟩, ⟨some 14, .mov (.tmp 100), none⟩, ⟨some 15, .mov (.tmp 101), none⟩]) (.seq (.ops [⟨some 102, .mov (.tmp 15), none⟩, ⟨some 9, .mov (.tmp 102), none⟩]) (.seq (.ops [⟨some 103, .mov (.tmp 14), none⟩, ⟨some 104, .mov (.tmp 1), none⟩, ⟨some 105, .bin .sub (.tmp 103) (.tmp 104), none⟩, ⟨some 106, .mov (.tmp 2), none⟩, ⟨some 107, .mov (.tmp 14), none⟩, ⟨some 108, .bin .sub (.tmp 106) (.tmp 107), none⟩, ⟨some 16, .mov (.tmp 105), none⟩, ⟨some 17, .mov (.tmp 108), none⟩]) (.seq (.ops [⟨some 109, .mov (.tmp 10), none⟩, ⟨some 110, .bin .quo (.tmp 109) (.const (.int .i64 8)), none⟩, ⟨some 18, .mov (.tmp 110), none⟩]) (.seq (.ops [⟨some 111, .mov (.tmp 16), none⟩, ⟨some 112, .mov (.tmp 17), none⟩, ⟨some 113, .bin .lss (.tmp 111) (.tmp 112), none⟩]) (.cond (.tmp 113) (.seq (.ops [⟨some 114, .mov (.tmp 16), none⟩, ⟨some 115, .mov (.tmp 18), none⟩, ⟨some 116, .bin .geq (.tmp 114) (.tmp 115), none⟩, ⟨some 8, .mov (.tmp 116), none⟩]) (.seq (.ops [⟨some 117, .mov (.tmp 0), none⟩, ⟨some 118, .mov (.tmp 1), none⟩, ⟨some 119, .mov (.tmp 14), none⟩, ⟨some 120, .mov (.tmp 3), none⟩, ⟨some 121, .call 91 [(.tmp 117), (.tmp 118), (.tmp 119), (.tmp 120)], none⟩]) (.ops [⟨some 122, .mov (.tmp 14), none⟩, ⟨some 123, .bin .add (.tmp 122) (.const (.int .i64 1)), none⟩, ⟨some 1, .mov (.tmp 123), none⟩]))) (.seq (.ops [⟨some 124, .mov (.tmp 17), none⟩, ⟨some 125, .mov (.tmp 18), none⟩, ⟨some 126, .bin .geq (.tmp 124) (.tmp 125), none⟩, ⟨some 8, .mov (.tmp 126), none⟩]) (.seq (.ops [⟨some 127, .mov (.tmp 0), none⟩, ⟨some 128, .mov (.tmp 14), none⟩, ⟨some 129, .bin .add (.tmp 128) (.const (.int .i64 1)), none⟩, ⟨some 130, .mov (.tmp 2), none⟩, ⟨some 131, .mov (.tmp 3), none⟩, ⟨some 132, .call 91 [(.tmp 127), (.tmp 129), (.tmp 130), (.tmp 131)], none⟩]) (.ops [⟨some 133, .mov (.tmp 14), none⟩, ⟨some 2, .mov (.tmp 133), none⟩]))))))))))))))))))))))
@[reducible] def rv91 : List RV := []
theorem low91 : lowC Try.prog tau Try.f91.ntmps (Try.f91.body.getD .skip) = some (erase ic91) := by kernel_rfl
theorem res91 : lowR Try.prog Try.f91.results.toList = some rv91 := by kernel_rfl
theorem bod91 : Try.f91.body = some (Try.f91.body.getD .skip) := by kernel_rfl
theorem cal91 : callable Try.prog 91 = true := by kernel_rfl

end Go.Proofs.YtnbfnpnephfjaaaE

/-! The code of a function, in the engine's words. -/
namespace Go.Proofs.YtnbfnpnephfjaaaE
open Go Go.RowKit
@[reducible] def ic74 : IC := (.seq (.ops [⟨some 3, .mov (.tmp 0), none⟩, ⟨some 4, .len (.tmp 3), none⟩, ⟨some 2, .mov (.tmp 4), none⟩]) (.ops [⟨some 5, .mov (.tmp 0), none⟩, ⟨some 6, .mov (.tmp 2), none⟩, ⟨some 7, .mov (.tmp 2), none⟩, ⟨some 8, .cvi .u64 (.tmp 7), none⟩, ⟨some 9, .call 92 [(.tmp 8)], none⟩, ⟨some 10, .call 91 [(.tmp 5), (.const (.int .i64 0)), (.tmp 6), (.tmp 9)], none⟩]))
@[reducible] def rv74 : List RV := []
theorem low74 : lowC Try.prog tau Try.f74.ntmps (Try.f74.body.getD .skip) = some (erase ic74) := by kernel_rfl
theorem res74 : lowR Try.prog Try.f74.results.toList = some rv74 := by kernel_rfl
theorem bod74 : Try.f74.body = some (Try.f74.body.getD .skip) := by kernel_rfl
theorem cal74 : callable Try.prog 74 = true := by kernel_rfl

end Go.Proofs.YtnbfnpnephfjaaaE

/-! Few numbers are sorted. -/
namespace Go.Proofs.YtnbfnpnephfjaaaE
open Go Go.RowKit
set_option linter.unusedSimpArgs false
set_option linter.unusedVariables false
set_option maxRecDepth 20000
set_option maxHeartbeats 4000000
def spNaN : Spec := ⟨fun _ _ => [], fun args objs K => match args, objs with
  | [.v (.int .i64 x)], [] => K (.v (.bool false)) [] 0
  | _, _ => False, false⟩
theorem spNaN_t {L : Hp} {a : List AVal} : Spec.take spNaN L a = [] := id rfl
theorem spNaN_k : Spec.keep spNaN = false := id rfl
theorem spNaN_f {x} {K : AVal → Hp → Nat → Prop} : Spec.f spNaN ([.v (.int .i64 x)]) ([]) K = (K (.v (.bool false)) [] 0) := id rfl
theorem valid114 : Valid Try.prog 114 spNaN := by
  refine validI (Γ := lk []) Try.func114 bod114 low114 res114 (good_of trivial) ?_
  intro E args objs K h hE hG hP
  simp only [spNaN] at h
  split at h
  · refine ⟨by simp [Try.ntmps114], ?_⟩
    simp (config := { maxSteps := 2000000 }) only [go_sem, hG, hP, Nat.reduceEqDiff, ↓reduceIte, reduceCtorEq, Nat.reduceAdd, Nat.reduceSub, Nat.reduceMul, Nat.reduceLT, Nat.reduceLeDiff, Int.reduceAdd, Int.reduceSub, Int.reduceMul, Int.reduceLT, Int.reduceLE, Int.reduceEq, Int.reduceNeg, Int.reduceNe, Int.reduceGE, Int.reduceGT, Nat.reduceBEq, Int.reduceToNat]
    exact ⟨_, _, _, by simp (config := { maxSteps := 2000000 }) only [go_sem, hG, hP, Nat.reduceEqDiff, ↓reduceIte, reduceCtorEq, Nat.reduceAdd, Nat.reduceSub, Nat.reduceMul, Nat.reduceLT, Nat.reduceLeDiff, Int.reduceAdd, Int.reduceSub, Int.reduceMul, Int.reduceLT, Int.reduceLE, Int.reduceEq, Int.reduceNeg, Int.reduceNe, Int.reduceGE, Int.reduceGT, Nat.reduceBEq, Int.reduceToNat]; all_goals simp, h⟩
  · exact h.elim
def spLess : Spec := ⟨fun _ _ => [], fun args objs K => match args, objs with
  | [.v (.int .i64 x), .v (.int .i64 y)], [] => K (.v (.bool (decide (x < y)))) [] 0
  | _, _ => False, false⟩
theorem spLess_t {L : Hp} {a : List AVal} : Spec.take spLess L a = [] := id rfl
theorem spLess_k : Spec.keep spLess = false := id rfl
theorem spLess_f {x} {y} {K : AVal → Hp → Nat → Prop} : Spec.f spLess ([.v (.int .i64 x), .v (.int .i64 y)]) ([]) K = (K (.v (.bool (decide (x < y)))) [] 0) := id rfl
theorem valid102 : Valid Try.prog 102 spLess := by
  refine validI (Γ := lk [(114, spNaN)]) Try.func102 bod102 low102 res102 (good_of ⟨⟨cal114, valid114⟩, trivial⟩) ?_
  intro E args objs K h hE hG hP
  simp only [spLess] at h
  split at h
  · refine ⟨by simp [Try.ntmps102], ?_⟩
    simp (config := { maxSteps := 2000000 }) only [go_sem, hG, hP, Nat.reduceEqDiff, ↓reduceIte, reduceCtorEq, Nat.reduceAdd, Nat.reduceSub, Nat.reduceMul, Nat.reduceLT, Nat.reduceLeDiff, Int.reduceAdd, Int.reduceSub, Int.reduceMul, Int.reduceLT, Int.reduceLE, Int.reduceEq, Int.reduceNeg, Int.reduceNe, Int.reduceGE, Int.reduceGT, Nat.reduceBEq, Int.reduceToNat,  spNaN_f, spNaN_t, spNaN_k]
    exact ⟨_, _, _, by simp (config := { maxSteps := 2000000 }) only [go_sem, hG, hP, Nat.reduceEqDiff, ↓reduceIte, reduceCtorEq, Nat.reduceAdd, Nat.reduceSub, Nat.reduceMul, Nat.reduceLT, Nat.reduceLeDiff, Int.reduceAdd, Int.reduceSub, Int.reduceMul, Int.reduceLT, Int.reduceLE, Int.reduceEq, Int.reduceNeg, Int.reduceNe, Int.reduceGE, Int.reduceGT, Nat.reduceBEq, Int.reduceToNat], h⟩
  · exact h.elim
def spLen64 : Spec := ⟨fun _ _ => [], fun args objs K => match args, objs with
  | [.v (.int .u64 n)], [] => (0 ≤ n ∧ n < 256) ∧ ∀ r, K (.v (.int .i64 r)) [] 0
  | _, _ => False, false⟩
theorem spLen64_t {L : Hp} {a : List AVal} : Spec.take spLen64 L a = [] := id rfl
theorem spLen64_k : Spec.keep spLen64 = false := id rfl
theorem spLen64_f {n} {K : AVal → Hp → Nat → Prop} : Spec.f spLen64 ([.v (.int .u64 n)]) ([]) K = ((0 ≤ n ∧ n < 256) ∧ ∀ r, K (.v (.int .i64 r)) [] 0) := id rfl
theorem valid106 : Valid Try.prog 106 spLen64 := by
  refine validI (Γ := lk []) Try.func106 bod106 low106 res106 (good_of trivial) ?_
  intro E args objs K h hE hG hP
  simp only [spLen64] at h
  split at h
  · refine ⟨by simp [Try.ntmps106], ?_⟩
    rename_i n
    obtain ⟨⟨h0, h1⟩, h⟩ := h
    have d1 : (n ≥ 4294967296) = False := eq_false (by omega)
    have d2 : (n ≥ 65536) = False := eq_false (by omega)
    have d3 : (n ≥ 256) = False := eq_false (by omega)
    have e1 : decide (n ≥ 4294967296) = false := decide_eq_false (by omega)
    have e2 : decide (n ≥ 65536) = false := decide_eq_false (by omega)
    have e3 : decide (n ≥ 256) = false := decide_eq_false (by omega)
    simp (config := { maxSteps := 2000000 }) only [go_sem, hG, hP, Nat.reduceEqDiff, ↓reduceIte, reduceCtorEq, Nat.reduceAdd, Nat.reduceSub, Nat.reduceMul, Nat.reduceLT, Nat.reduceLeDiff, Int.reduceAdd, Int.reduceSub, Int.reduceMul, Int.reduceLT, Int.reduceLE, Int.reduceEq, Int.reduceNeg, Int.reduceNe, Int.reduceGE, Int.reduceGT, Nat.reduceBEq, Int.reduceToNat,  d1, d2, d3, e1, e2, e3]
    have w : wr .u8 n = n := by rw [wr_eq, IntKind.wrap]; simp [IntKind.bits, IntKind.signed]; omega
    rw [w]
    refine ⟨⟨h0, ?_⟩, _, _, _, ?_, h ?r⟩
    · exact h1
    · simp (config := { maxSteps := 2000000 }) only [go_sem, hG, hP, Nat.reduceEqDiff, ↓reduceIte, reduceCtorEq, Nat.reduceAdd, Nat.reduceSub, Nat.reduceMul, Nat.reduceLT, Nat.reduceLeDiff, Int.reduceAdd, Int.reduceSub, Int.reduceMul, Int.reduceLT, Int.reduceLE, Int.reduceEq, Int.reduceNeg, Int.reduceNe, Int.reduceGE, Int.reduceGT, Nat.reduceBEq, Int.reduceToNat]
      rfl
  · exact h.elim
def spLen : Spec := ⟨fun _ _ => [], fun args objs K => match args, objs with
  | [.v (.int .u64 n)], [] => (0 ≤ n ∧ n < 256) ∧ ∀ r, K (.v (.int .i64 r)) [] 0
  | _, _ => False, false⟩
theorem spLen_t {L : Hp} {a : List AVal} : Spec.take spLen L a = [] := id rfl
theorem spLen_k : Spec.keep spLen = false := id rfl
theorem spLen_f {n} {K : AVal → Hp → Nat → Prop} : Spec.f spLen ([.v (.int .u64 n)]) ([]) K = ((0 ≤ n ∧ n < 256) ∧ ∀ r, K (.v (.int .i64 r)) [] 0) := id rfl
theorem valid92 : Valid Try.prog 92 spLen := by
  refine validI (Γ := lk [(106, spLen64)]) Try.func92 bod92 low92 res92 (good_of ⟨⟨cal106, valid106⟩, trivial⟩) ?_
  intro E args objs K h hE hG hP
  simp only [spLen] at h
  split at h
  · refine ⟨by simp [Try.ntmps92], ?_⟩
    rename_i n
    obtain ⟨⟨h0, h1⟩, h⟩ := h
    simp (config := { maxSteps := 2000000 }) only [go_sem, hG, hP, Nat.reduceEqDiff, ↓reduceIte, reduceCtorEq, Nat.reduceAdd, Nat.reduceSub, Nat.reduceMul, Nat.reduceLT, Nat.reduceLeDiff, Int.reduceAdd, Int.reduceSub, Int.reduceMul, Int.reduceLT, Int.reduceLE, Int.reduceEq, Int.reduceNeg, Int.reduceNe, Int.reduceGE, Int.reduceGT, Nat.reduceBEq, Int.reduceToNat,  spLen64_f, spLen64_t, spLen64_k]
    exact ⟨⟨h0, h1⟩, fun r => ⟨_, _, _, by simp (config := { maxSteps := 2000000 }) only [go_sem, hG, hP, Nat.reduceEqDiff, ↓reduceIte, reduceCtorEq, Nat.reduceAdd, Nat.reduceSub, Nat.reduceMul, Nat.reduceLT, Nat.reduceLeDiff, Int.reduceAdd, Int.reduceSub, Int.reduceMul, Int.reduceLT, Int.reduceLE, Int.reduceEq, Int.reduceNeg, Int.reduceNe, Int.reduceGE, Int.reduceGT, Nat.reduceBEq, Int.reduceToNat], h r⟩⟩
  · exact h.elim
/-- In order, but for what stands at j. -/
def Ord (ys : List Int) (i j : Nat) : Prop := ∀ p q, p < q → q < i → q ≠ j → ys.getD p 0 ≤ ys.getD q 0
def Srt (ys : List Int) : Prop := ∀ p q, p < q → q < ys.length → ys.getD p 0 ≤ ys.getD q 0
theorem swap_get (ys : List Int) {j : Nat} (h0 : 0 < j) (hj : j < ys.length) (q : Nat) :
    ((ys.set j (ys.getD (j - 1) 0)).set (j - 1) (ys.getD j 0)).getD q 0 = if q = j then ys.getD (j - 1) 0 else if q = j - 1 then ys.getD j 0 else ys.getD q 0 := by
  simp only [List.getD, List.getElem?_set, List.length_set]
  grind
theorem swap_perm (ys : List Int) {j : Nat} (h0 : 0 < j) (hj : j < ys.length) : ((ys.set j (ys.getD (j - 1) 0)).set (j - 1) (ys.getD j 0)).Perm ys := by
  rw [List.getD, List.getD, List.getElem?_eq_getElem hj, List.getElem?_eq_getElem (show j - 1 < ys.length by omega)]
  exact List.set_set_perm hj (by omega)
theorem Ord.swap {ys : List Int} {i j : Nat} (h : Ord ys i j) (h0 : 0 < j) (hj : j < i) (hi : i ≤ ys.length) (hlt : ys.getD j 0 < ys.getD (j - 1) 0) :
    Ord ((ys.set j (ys.getD (j - 1) 0)).set (j - 1) (ys.getD j 0)) i (j - 1) := by
  intro p q hpq hq hne
  rw [swap_get ys h0 (by omega), swap_get ys h0 (by omega)]
  have k1 := fun p (hp : p < j - 1) => h p (j - 1) hp (by omega) (by omega)
  have k2 := h p q hpq hq
  have k3 := fun (hq2 : j < q) => h (j - 1) q (by omega) hq (by omega)
  have k4 := fun (hq2 : j < q) => h j q (by omega) hq (by omega)
  grind
theorem Ord.stop {ys : List Int} {i j : Nat} (h : Ord ys i j) (hj : j < i) (hs : j = 0 ∨ ys.getD (j - 1) 0 ≤ ys.getD j 0) : ∀ p q, p < q → q < i → ys.getD p 0 ≤ ys.getD q 0 := by
  intro p q hpq hq
  by_cases e : q = j
  · subst e
    rcases hs with rfl | hs
    · omega
    · by_cases e2 : p = q - 1
      · rw [e2]; exact hs
      · exact Int.le_trans (h p (q - 1) (by omega) (by omega) (by omega)) hs
  · exact h p q hpq hq e
def spIns : Spec := ⟨fun _ => take1, fun args objs K => match args, objs with
  | [.v (.slice none 0 0), .v (.int .i64 0), .v (.int .i64 0)], [] => K (.tup []) [] 0
  | [.sub 0 1 0 n, .v (.int .i64 0), .v (.int .i64 m)], [.row .int xs] => (n = xs.length ∧ m = (xs.length : Int) ∧ xs.length ≤ 1099511627776) ∧ ∀ ys, (ys.Perm xs ∧ Srt ys) → K (.tup []) [(0, .row .int ys)] 1
  | _, _ => False, false⟩
theorem gIns0 {K : AVal → Hp → Nat → Prop} : Spec.f spIns [.v (.slice none 0 0), .v (.int .i64 0), .v (.int .i64 0)] [] K = K (.tup []) [] 0 := id rfl
theorem gIns1 {n : Nat} {m : Int} {xs : List Int} {K : AVal → Hp → Nat → Prop} : Spec.f spIns [.sub 0 1 0 n, .v (.int .i64 0), .v (.int .i64 m)] [.row .int xs] K = ((n = xs.length ∧ m = (xs.length : Int) ∧ xs.length ≤ 1099511627776) ∧ ∀ ys, (ys.Perm xs ∧ Srt ys) → K (.tup []) [(0, .row .int ys)] 1) := id rfl
theorem gInst {L : Hp} {a : List AVal} : Spec.take spIns L a = take1 a := id rfl
theorem gInsk : Spec.keep spIns = false := id rfl
theorem take1_v {v : Value} {r : List AVal} : take1 (.v v :: r) = [] := id rfl
theorem take1_s {m z lo len : Nat} {r : List AVal} : take1 (.sub m z lo len :: r) = [m] := id rfl
theorem valid96 : Valid Try.prog 96 spIns := by
  refine validI (Γ := lk [(102, spLess)]) Try.func96 bod96 low96 res96 (good_of ⟨⟨cal102, valid102⟩, trivial⟩) ?_
  intro E args objs K h hE hG hP
  simp only [spIns] at h
  split at h
  · refine ⟨by simp [Try.ntmps96], ?_⟩
    simp (config := { maxSteps := 2000000 }) only [go_sem, hG, hP, Nat.reduceEqDiff, ↓reduceIte, reduceCtorEq, Nat.reduceAdd, Nat.reduceSub, Nat.reduceMul, Nat.reduceLT, Nat.reduceLeDiff, Int.reduceAdd, Int.reduceSub, Int.reduceMul, Int.reduceLT, Int.reduceLE, Int.reduceEq, Int.reduceNeg, Int.reduceNe, Int.reduceGE, Int.reduceGT, Nat.reduceBEq, Int.reduceToNat]
    refine loopI hE (fun j : Nat => ⟨[(0, .v (.slice none 0 0)), (1, .v (.int .i64 0)), (2, .v (.int .i64 0)), (6, .v (.int .i64 1))], [], 0, Try.f96.ntmps⟩) (fun j => j = 0) (fun j => 0) ⟨0, rfl, SubS.weak ?_⟩ ?_
    · simp (config := { maxSteps := 2000000 }) only [go_sem, hG, hP, Nat.reduceEqDiff, ↓reduceIte, reduceCtorEq, Nat.reduceAdd, Nat.reduceSub, Nat.reduceMul, Nat.reduceLT, Nat.reduceLeDiff, Int.reduceAdd, Int.reduceSub, Int.reduceMul, Int.reduceLT, Int.reduceLE, Int.reduceEq, Int.reduceNeg, Int.reduceNe, Int.reduceGE, Int.reduceGT, Nat.reduceBEq, Int.reduceToNat]
      repeat' (first | with_reducible rfl | (refine And.intro ?_ ?_) | (refine congrArg (Value.int _) ?_; omega) | omega)
    · rintro j rfl
      simp (config := { maxSteps := 2000000 }) only [go_sem, hG, hP, Nat.reduceEqDiff, ↓reduceIte, reduceCtorEq, Nat.reduceAdd, Nat.reduceSub, Nat.reduceMul, Nat.reduceLT, Nat.reduceLeDiff, Int.reduceAdd, Int.reduceSub, Int.reduceMul, Int.reduceLT, Int.reduceLE, Int.reduceEq, Int.reduceNeg, Int.reduceNe, Int.reduceGE, Int.reduceGT, Nat.reduceBEq, Int.reduceToNat]
      exact ⟨_, _, _, by simp (config := { maxSteps := 2000000 }) only [go_sem, hG, hP, Nat.reduceEqDiff, ↓reduceIte, reduceCtorEq, Nat.reduceAdd, Nat.reduceSub, Nat.reduceMul, Nat.reduceLT, Nat.reduceLeDiff, Int.reduceAdd, Int.reduceSub, Int.reduceMul, Int.reduceLT, Int.reduceLE, Int.reduceEq, Int.reduceNeg, Int.reduceNe, Int.reduceGE, Int.reduceGT, Nat.reduceBEq, Int.reduceToNat], h⟩
  · refine ⟨by simp [Try.ntmps96], ?_⟩
    rename_i n m xs
    obtain ⟨⟨rfl, rfl, hlen⟩, h⟩ := h
    simp (config := { maxSteps := 2000000 }) only [go_sem, hG, hP, Nat.reduceEqDiff, ↓reduceIte, reduceCtorEq, Nat.reduceAdd, Nat.reduceSub, Nat.reduceMul, Nat.reduceLT, Nat.reduceLeDiff, Int.reduceAdd, Int.reduceSub, Int.reduceMul, Int.reduceLT, Int.reduceLE, Int.reduceEq, Int.reduceNeg, Int.reduceNe, Int.reduceGE, Int.reduceGT, Nat.reduceBEq, Int.reduceToNat]
    refine loopI hE (fun p : Nat × List Int => ⟨[(0, .sub 0 1 0 xs.length), (1, .v (.int .i64 0)), (2, .v (.int .i64 xs.length)), (6, .v (.int .i64 p.1))], [(0, .row .int p.2)], 1, Try.f96.ntmps⟩) (fun p => 1 ≤ p.1 ∧ (p.1 ≤ xs.length ∨ p.1 = 1) ∧ p.2.Perm xs ∧ ∀ a b, a < b → b < p.1 → p.2.getD a 0 ≤ p.2.getD b 0) (fun p => xs.length - p.1) ⟨(1, xs), ⟨Nat.le_refl _, .inr rfl, List.Perm.refl _, fun a b h1 h2 => by omega⟩, SubS.weak ?_⟩ ?_
    · simp (config := { maxSteps := 2000000 }) only [go_sem, hG, hP, Nat.reduceEqDiff, ↓reduceIte, reduceCtorEq, Nat.reduceAdd, Nat.reduceSub, Nat.reduceMul, Nat.reduceLT, Nat.reduceLeDiff, Int.reduceAdd, Int.reduceSub, Int.reduceMul, Int.reduceLT, Int.reduceLE, Int.reduceEq, Int.reduceNeg, Int.reduceNe, Int.reduceGE, Int.reduceGT, Nat.reduceBEq, Int.reduceToNat]
      repeat' (first | with_reducible rfl | (refine And.intro ?_ ?_) | (refine congrArg (Value.int _) ?_; omega) | omega)
    · rintro ⟨i, ys⟩ ⟨hi1, hi2, hpm, hso⟩
      dsimp only at hi1 hi2 hpm hso ⊢
      have hyl := hpm.length_eq
      simp (config := { maxSteps := 2000000 }) only [go_sem, hG, hP, Nat.reduceEqDiff, ↓reduceIte, reduceCtorEq, Nat.reduceAdd, Nat.reduceSub, Nat.reduceMul, Nat.reduceLT, Nat.reduceLeDiff, Int.reduceAdd, Int.reduceSub, Int.reduceMul, Int.reduceLT, Int.reduceLE, Int.reduceEq, Int.reduceNeg, Int.reduceNe, Int.reduceGE, Int.reduceGT, Nat.reduceBEq, Int.reduceToNat]
      (try simp (disch := omega) only [wrap_id])
      refine ⟨fun hlt => ?_, fun hge => ⟨_, _, _, ?_, h ys ⟨hpm, fun a b h1 h2 => hso a b h1 (by omega)⟩⟩⟩
      · repeat (refine And.intro (by first | omega | (simp; done) | (simp; omega) | (unfold appRoom; omega)) ?_)
        refine loopI hE (fun p : Nat × List Int => ⟨[(0, .sub 0 1 0 xs.length), (1, .v (.int .i64 0)), (2, .v (.int .i64 xs.length)), (6, .v (.int .i64 i)), (7, .v (.int .i64 p.1))], [(0, .row .int p.2)], 1, Try.f96.ntmps⟩) (fun p => p.1 ≤ i ∧ p.2.Perm xs ∧ Ord p.2 (i + 1) p.1) (fun p => p.1) ⟨(i, ys), ⟨Nat.le_refl _, hpm, fun a b h1 h2 h3 => hso a b h1 (by dsimp only at h3; omega)⟩, SubS.weak ?_⟩ ?_
        · simp (config := { maxSteps := 2000000 }) only [go_sem, hG, hP, Nat.reduceEqDiff, ↓reduceIte, reduceCtorEq, Nat.reduceAdd, Nat.reduceSub, Nat.reduceMul, Nat.reduceLT, Nat.reduceLeDiff, Int.reduceAdd, Int.reduceSub, Int.reduceMul, Int.reduceLT, Int.reduceLE, Int.reduceEq, Int.reduceNeg, Int.reduceNe, Int.reduceGE, Int.reduceGT, Nat.reduceBEq, Int.reduceToNat]
          repeat' (first | with_reducible rfl | (refine And.intro ?_ ?_) | (refine congrArg (Value.int _) ?_; omega) | omega)
        · rintro ⟨j, zs⟩ ⟨hj, hpm2, hord⟩
          dsimp only at hj hpm2 hord ⊢
          have hzl := hpm2.length_eq
          have hj1 : ((j : Int) - 1).toNat = j - 1 := by omega
          simp (config := { maxSteps := 2000000 }) only [go_sem, hG, hP, Nat.reduceEqDiff, ↓reduceIte, reduceCtorEq, Nat.reduceAdd, Nat.reduceSub, Nat.reduceMul, Nat.reduceLT, Nat.reduceLeDiff, Int.reduceAdd, Int.reduceSub, Int.reduceMul, Int.reduceLT, Int.reduceLE, Int.reduceEq, Int.reduceNeg, Int.reduceNe, Int.reduceGE, Int.reduceGT, Nat.reduceBEq, Int.reduceToNat,  spLess_f, spLess_t, spLess_k, hj1]
          (try simp (disch := omega) only [wrap_id])
          repeat' (first | (refine And.intro ?_ ?_) | (with_reducible intro _))
          all_goals first
            | omega
            | (simp only [List.length_set]; omega)
            | skip
          · rename_i hlt3
            simp only [hj1] at hlt3 ⊢
            refine ⟨(j - 1, (zs.set j (zs.getD (j - 1) 0)).set (j - 1) (zs.getD j 0)), ⟨⟨by dsimp only; omega, (swap_perm zs (by omega) (by omega)).trans hpm2, hord.swap (by omega) (by omega) (by omega) (by assumption)⟩, by dsimp only; omega⟩, SubS.weak ?_⟩
            simp (config := { maxSteps := 2000000 }) only [go_sem, hG, hP, Nat.reduceEqDiff, ↓reduceIte, reduceCtorEq, Nat.reduceAdd, Nat.reduceSub, Nat.reduceMul, Nat.reduceLT, Nat.reduceLeDiff, Int.reduceAdd, Int.reduceSub, Int.reduceMul, Int.reduceLT, Int.reduceLE, Int.reduceEq, Int.reduceNeg, Int.reduceNe, Int.reduceGE, Int.reduceGT, Nat.reduceBEq, Int.reduceToNat]
            repeat' (first | with_reducible rfl | (refine And.intro ?_ ?_) | (refine congrArg (Value.int _) ?_; omega) | omega)
          · refine ⟨(i + 1, zs), ⟨⟨by dsimp only; omega, by dsimp only; omega, hpm2, hord.stop (by omega) (.inr (by grind))⟩, by dsimp only; omega⟩, SubS.weak ?_⟩
            simp (config := { maxSteps := 2000000 }) only [go_sem, hG, hP, Nat.reduceEqDiff, ↓reduceIte, reduceCtorEq, Nat.reduceAdd, Nat.reduceSub, Nat.reduceMul, Nat.reduceLT, Nat.reduceLeDiff, Int.reduceAdd, Int.reduceSub, Int.reduceMul, Int.reduceLT, Int.reduceLE, Int.reduceEq, Int.reduceNeg, Int.reduceNe, Int.reduceGE, Int.reduceGT, Nat.reduceBEq, Int.reduceToNat]
            repeat' (first | with_reducible rfl | (refine And.intro ?_ ?_) | (refine congrArg (Value.int _) ?_; omega) | omega)
          · refine ⟨(i + 1, zs), ⟨⟨by dsimp only; omega, by dsimp only; omega, hpm2, hord.stop (by omega) (.inl (by omega))⟩, by dsimp only; omega⟩, SubS.weak ?_⟩
            simp (config := { maxSteps := 2000000 }) only [go_sem, hG, hP, Nat.reduceEqDiff, ↓reduceIte, reduceCtorEq, Nat.reduceAdd, Nat.reduceSub, Nat.reduceMul, Nat.reduceLT, Nat.reduceLeDiff, Int.reduceAdd, Int.reduceSub, Int.reduceMul, Int.reduceLT, Int.reduceLE, Int.reduceEq, Int.reduceNeg, Int.reduceNe, Int.reduceGE, Int.reduceGT, Nat.reduceBEq, Int.reduceToNat]
            repeat' (first | with_reducible rfl | (refine And.intro ?_ ?_) | (refine congrArg (Value.int _) ?_; omega) | omega)
      · simp (config := { maxSteps := 2000000 }) only [go_sem, hG, hP, Nat.reduceEqDiff, ↓reduceIte, reduceCtorEq, Nat.reduceAdd, Nat.reduceSub, Nat.reduceMul, Nat.reduceLT, Nat.reduceLeDiff, Int.reduceAdd, Int.reduceSub, Int.reduceMul, Int.reduceLT, Int.reduceLE, Int.reduceEq, Int.reduceNeg, Int.reduceNe, Int.reduceGE, Int.reduceGT, Nat.reduceBEq, Int.reduceToNat]
  · exact h.elim
/-- No more than twelve. -/
def spPdq : Spec := ⟨fun _ => take1, fun args objs K => match args, objs with
  | [.v (.slice none 0 0), .v (.int .i64 0), .v (.int .i64 0), .v (.int .i64 _)], [] => K (.tup []) [] 0
  | [.sub 0 1 0 n, .v (.int .i64 0), .v (.int .i64 m), .v (.int .i64 _)], [.row .int xs] => (n = xs.length ∧ m = (xs.length : Int) ∧ xs.length ≤ 12) ∧ ∀ ys, (ys.Perm xs ∧ Srt ys) → K (.tup []) [(0, .row .int ys)] 1
  | _, _ => False, false⟩
theorem gPdq0 {r : Int} {K : AVal → Hp → Nat → Prop} : Spec.f spPdq [.v (.slice none 0 0), .v (.int .i64 0), .v (.int .i64 0), .v (.int .i64 r)] [] K = K (.tup []) [] 0 := id rfl
theorem gPdq1 {n : Nat} {m r : Int} {xs : List Int} {K : AVal → Hp → Nat → Prop} : Spec.f spPdq [.sub 0 1 0 n, .v (.int .i64 0), .v (.int .i64 m), .v (.int .i64 r)] [.row .int xs] K = ((n = xs.length ∧ m = (xs.length : Int) ∧ xs.length ≤ 12) ∧ ∀ ys, (ys.Perm xs ∧ Srt ys) → K (.tup []) [(0, .row .int ys)] 1) := id rfl
theorem gPdqt {L : Hp} {a : List AVal} : Spec.take spPdq L a = take1 a := id rfl
theorem gPdqk : Spec.keep spPdq = false := id rfl
theorem valid91 : Valid Try.prog 91 spPdq := by
  refine validI (Γ := lk [(96, spIns)]) Try.func91 bod91 low91 res91 (good_of ⟨⟨cal96, valid96⟩, trivial⟩) ?_
  intro E args objs K h hE hG hP
  simp only [spPdq] at h
  split at h
  · refine ⟨by simp [Try.ntmps91], ?_⟩
    rename_i r
    simp (config := { maxSteps := 2000000 }) only [go_sem, hG, hP, Nat.reduceEqDiff, ↓reduceIte, reduceCtorEq, Nat.reduceAdd, Nat.reduceSub, Nat.reduceMul, Nat.reduceLT, Nat.reduceLeDiff, Int.reduceAdd, Int.reduceSub, Int.reduceMul, Int.reduceLT, Int.reduceLE, Int.reduceEq, Int.reduceNeg, Int.reduceNe, Int.reduceGE, Int.reduceGT, Nat.reduceBEq, Int.reduceToNat]
    refine loopI hE (fun j : Nat => ⟨[(0, .v (.slice none 0 0)), (1, .v (.int .i64 0)), (2, .v (.int .i64 0))], [], 0, Try.f91.ntmps⟩) (fun j => j = 0) (fun j => 0) ⟨0, rfl, SubS.weak ?_⟩ ?_
    · simp (config := { maxSteps := 2000000 }) only [go_sem, hG, hP, Nat.reduceEqDiff, ↓reduceIte, reduceCtorEq, Nat.reduceAdd, Nat.reduceSub, Nat.reduceMul, Nat.reduceLT, Nat.reduceLeDiff, Int.reduceAdd, Int.reduceSub, Int.reduceMul, Int.reduceLT, Int.reduceLE, Int.reduceEq, Int.reduceNeg, Int.reduceNe, Int.reduceGE, Int.reduceGT, Nat.reduceBEq, Int.reduceToNat]
    · rintro j rfl
      have w : wr .i64 0 = 0 := wrap_id (by omega) (by omega)
      simp (config := { maxSteps := 2000000 }) only [go_sem, hG, hP, Nat.reduceEqDiff, ↓reduceIte, reduceCtorEq, Nat.reduceAdd, Nat.reduceSub, Nat.reduceMul, Nat.reduceLT, Nat.reduceLeDiff, Int.reduceAdd, Int.reduceSub, Int.reduceMul, Int.reduceLT, Int.reduceLE, Int.reduceEq, Int.reduceNeg, Int.reduceNe, Int.reduceGE, Int.reduceGT, Nat.reduceBEq, Int.reduceToNat,  gIns0, gIns1, gInst, gInsk, take1_v, take1_s, w]
      exact ⟨_, _, _, by simp (config := { maxSteps := 2000000 }) only [go_sem, hG, hP, Nat.reduceEqDiff, ↓reduceIte, reduceCtorEq, Nat.reduceAdd, Nat.reduceSub, Nat.reduceMul, Nat.reduceLT, Nat.reduceLeDiff, Int.reduceAdd, Int.reduceSub, Int.reduceMul, Int.reduceLT, Int.reduceLE, Int.reduceEq, Int.reduceNeg, Int.reduceNe, Int.reduceGE, Int.reduceGT, Nat.reduceBEq, Int.reduceToNat], h⟩
  · refine ⟨by simp [Try.ntmps91], ?_⟩
    rename_i n m r xs
    obtain ⟨⟨rfl, rfl, hlen⟩, h⟩ := h
    simp (config := { maxSteps := 2000000 }) only [go_sem, hG, hP, Nat.reduceEqDiff, ↓reduceIte, reduceCtorEq, Nat.reduceAdd, Nat.reduceSub, Nat.reduceMul, Nat.reduceLT, Nat.reduceLeDiff, Int.reduceAdd, Int.reduceSub, Int.reduceMul, Int.reduceLT, Int.reduceLE, Int.reduceEq, Int.reduceNeg, Int.reduceNe, Int.reduceGE, Int.reduceGT, Nat.reduceBEq, Int.reduceToNat]
    refine loopI hE (fun j : Nat => ⟨[(0, .sub 0 1 0 xs.length), (1, .v (.int .i64 0)), (2, .v (.int .i64 xs.length))], [(0, .row .int xs)], 1, Try.f91.ntmps⟩) (fun j => j = 0) (fun j => 0) ⟨0, rfl, SubS.weak ?_⟩ ?_
    · simp (config := { maxSteps := 2000000 }) only [go_sem, hG, hP, Nat.reduceEqDiff, ↓reduceIte, reduceCtorEq, Nat.reduceAdd, Nat.reduceSub, Nat.reduceMul, Nat.reduceLT, Nat.reduceLeDiff, Int.reduceAdd, Int.reduceSub, Int.reduceMul, Int.reduceLT, Int.reduceLE, Int.reduceEq, Int.reduceNeg, Int.reduceNe, Int.reduceGE, Int.reduceGT, Nat.reduceBEq, Int.reduceToNat]
    · rintro j rfl
      have w : wr .i64 ((xs.length : Int) - 0) = (xs.length : Int) := by rw [wrap_id (by omega) (by omega)]; omega
      have w2 : ((xs.length : Int) ≤ 12) = True := eq_true (by omega)
      have w3 : decide ((xs.length : Int) ≤ 12) = true := decide_eq_true (by omega)
      simp (config := { maxSteps := 2000000 }) only [go_sem, hG, hP, Nat.reduceEqDiff, ↓reduceIte, reduceCtorEq, Nat.reduceAdd, Nat.reduceSub, Nat.reduceMul, Nat.reduceLT, Nat.reduceLeDiff, Int.reduceAdd, Int.reduceSub, Int.reduceMul, Int.reduceLT, Int.reduceLE, Int.reduceEq, Int.reduceNeg, Int.reduceNe, Int.reduceGE, Int.reduceGT, Nat.reduceBEq, Int.reduceToNat,  gIns0, gIns1, gInst, gInsk, take1_v, take1_s, w, w2, w3]
      exact ⟨by omega, fun ys hy => ⟨_, _, _, by simp (config := { maxSteps := 2000000 }) only [go_sem, hG, hP, Nat.reduceEqDiff, ↓reduceIte, reduceCtorEq, Nat.reduceAdd, Nat.reduceSub, Nat.reduceMul, Nat.reduceLT, Nat.reduceLeDiff, Int.reduceAdd, Int.reduceSub, Int.reduceMul, Int.reduceLT, Int.reduceLE, Int.reduceEq, Int.reduceNeg, Int.reduceNe, Int.reduceGE, Int.reduceGT, Nat.reduceBEq, Int.reduceToNat], h ys hy⟩⟩
  · exact h.elim
def spSort : Spec := ⟨fun _ => take1, fun args objs K => match args, objs with
  | [.v (.slice none 0 0)], [] => K (.tup []) [] 0
  | [.sub 0 1 0 n], [.row .int xs] => (n = xs.length ∧ xs.length ≤ 12) ∧ ∀ ys, (ys.Perm xs ∧ Srt ys) → K (.tup []) [(0, .row .int ys)] 1
  | _, _ => False, false⟩
theorem gSort0 {K : AVal → Hp → Nat → Prop} : Spec.f spSort [.v (.slice none 0 0)] [] K = K (.tup []) [] 0 := id rfl
theorem gSort1 {n : Nat} {xs : List Int} {K : AVal → Hp → Nat → Prop} : Spec.f spSort [.sub 0 1 0 n] [.row .int xs] K = ((n = xs.length ∧ xs.length ≤ 12) ∧ ∀ ys, (ys.Perm xs ∧ Srt ys) → K (.tup []) [(0, .row .int ys)] 1) := id rfl
theorem gSortt {L : Hp} {a : List AVal} : Spec.take spSort L a = take1 a := id rfl
theorem gSortk : Spec.keep spSort = false := id rfl
theorem wr64 {n : Int} (h0 : 0 ≤ n) (h1 : n < 256) : wr .u64 n = n := by rw [wr_eq, IntKind.wrap]; simp [IntKind.bits, IntKind.signed]; omega
theorem valid74 : Valid Try.prog 74 spSort := by
  refine validI (Γ := lk [(91, spPdq), (92, spLen)]) Try.func74 bod74 low74 res74 (good_of ⟨⟨cal91, valid91⟩, ⟨cal92, valid92⟩, trivial⟩) ?_
  intro E args objs K h hE hG hP
  simp only [spSort] at h
  split at h
  · refine ⟨by simp [Try.ntmps74], ?_⟩
    have w : wr .u64 0 = 0 := wr64 (by omega) (by omega)
    simp (config := { maxSteps := 2000000 }) only [go_sem, hG, hP, Nat.reduceEqDiff, ↓reduceIte, reduceCtorEq, Nat.reduceAdd, Nat.reduceSub, Nat.reduceMul, Nat.reduceLT, Nat.reduceLeDiff, Int.reduceAdd, Int.reduceSub, Int.reduceMul, Int.reduceLT, Int.reduceLE, Int.reduceEq, Int.reduceNeg, Int.reduceNe, Int.reduceGE, Int.reduceGT, Nat.reduceBEq, Int.reduceToNat,  spLen_f, spLen_t, spLen_k, gPdq0, gPdq1, gPdqt, gPdqk, take1_v, take1_s, w]
    exact fun r => ⟨_, _, _, by simp (config := { maxSteps := 2000000 }) only [go_sem, hG, hP, Nat.reduceEqDiff, ↓reduceIte, reduceCtorEq, Nat.reduceAdd, Nat.reduceSub, Nat.reduceMul, Nat.reduceLT, Nat.reduceLeDiff, Int.reduceAdd, Int.reduceSub, Int.reduceMul, Int.reduceLT, Int.reduceLE, Int.reduceEq, Int.reduceNeg, Int.reduceNe, Int.reduceGE, Int.reduceGT, Nat.reduceBEq, Int.reduceToNat], h⟩
  · refine ⟨by simp [Try.ntmps74], ?_⟩
    rename_i n xs
    obtain ⟨⟨rfl, hlen⟩, h⟩ := h
    have w : wr .u64 (xs.length : Int) = (xs.length : Int) := wr64 (by omega) (by omega)
    simp (config := { maxSteps := 2000000 }) only [go_sem, hG, hP, Nat.reduceEqDiff, ↓reduceIte, reduceCtorEq, Nat.reduceAdd, Nat.reduceSub, Nat.reduceMul, Nat.reduceLT, Nat.reduceLeDiff, Int.reduceAdd, Int.reduceSub, Int.reduceMul, Int.reduceLT, Int.reduceLE, Int.reduceEq, Int.reduceNeg, Int.reduceNe, Int.reduceGE, Int.reduceGT, Nat.reduceBEq, Int.reduceToNat,  spLen_f, spLen_t, spLen_k, gPdq0, gPdq1, gPdqt, gPdqk, take1_v, take1_s, w]
    exact ⟨by omega, fun r => ⟨hlen, fun ys hy => ⟨_, _, _, by simp (config := { maxSteps := 2000000 }) only [go_sem, hG, hP, Nat.reduceEqDiff, ↓reduceIte, reduceCtorEq, Nat.reduceAdd, Nat.reduceSub, Nat.reduceMul, Nat.reduceLT, Nat.reduceLeDiff, Int.reduceAdd, Int.reduceSub, Int.reduceMul, Int.reduceLT, Int.reduceLE, Int.reduceEq, Int.reduceNeg, Int.reduceNe, Int.reduceGE, Int.reduceGT, Nat.reduceBEq, Int.reduceToNat], h ys hy⟩⟩⟩
  · exact h.elim

end Go.Proofs.YtnbfnpnephfjaaaE

/-! The code of a function, in the engine's words. -/
namespace Go.Proofs.YtnbfnpnephfjaaaE
open Go Go.RowKit
@[reducible] def ic39 : IC := (.seq (.ops [⟨some 2, .box (.tmp 0), none⟩, ⟨some 4, .mov (.const (.slice none 0 0)), none⟩]) (.seq (.ops [⟨some 11, .blds .int 0 [], none⟩, ⟨some 5, .mov (.tmp 11), none⟩]) (.seq (.seq (.ops [⟨some 12, .load 2 true (.tmp 2), none⟩, ⟨some 13, .call 14 [(.tmp 12)], none⟩, ⟨some 14, .una .not (.tmp 13), none⟩]) (.cond (.tmp 14) (.seq (.ops [⟨some 15, .mov (.tmp 5), none⟩, ⟨some 4, .mov (.tmp 15), none⟩]) .ret) .skip)) (.seq (.ops [⟨some 17, .load 2 true (.tmp 2), none⟩, ⟨some 18, .mov (.tmp 1), none⟩, ⟨some 19, .call 52 [(.tmp 17), (.tmp 18)], none⟩, ⟨some 16, .mov (.tmp 19), none⟩, ⟨some 20, .ext (.tmp 16) 0, none⟩, ⟨some 21, .ext (.tmp 16) 1, none⟩, ⟨some 6, .mov (.tmp 20), none⟩, ⟨some 7, .mov (.tmp 21), none⟩]) (.seq (.seq (.ops [⟨some 22, .mov (.tmp 6), none⟩, ⟨some 23, .bin .lss (.tmp 22) (.const (.int .i64 0)), none⟩, ⟨some 24, .mov (.tmp 23), none⟩, ⟨some 25, .fadr 1 (.tmp 2), some (24, false)⟩, ⟨some 26, .load 1 false (.tmp 25), some (24, false)⟩, ⟨some 27, .mov (.tmp 6), some (24, false)⟩, ⟨some 28, .iadr 2 (.tmp 26) (.tmp 27), some (24, false)⟩, ⟨some 29, .fadr 0 (.tmp 28), some (24, false)⟩, ⟨some 30, .load 1 false (.tmp 29), some (24, false)⟩, ⟨some 31, .pick (.tmp 24) (.const (.bool true)) (.tmp 30), none⟩, ⟨some 32, .mov (.tmp 31), none⟩, ⟨some 33, .fadr 1 (.tmp 2), some (32, false)⟩, ⟨some 34, .load 1 false (.tmp 33), some (32, false)⟩, ⟨some 35, .mov (.tmp 6), some (32, false)⟩, ⟨some 36, .iadr 2 (.tmp 34) (.tmp 35), some (32, false)⟩, ⟨some 37, .fadr 1 (.tmp 36), some (32, false)⟩, ⟨some 38, .load 1 false (.tmp 37), some (32, false)⟩, ⟨some 39, .mov (.tmp 7), some (32, false)⟩, ⟨some 40, .iadr 2 (.tmp 38) (.tmp 39), some (32, false)⟩, ⟨some 41, .fadr 1 (.tmp 40), some (32, false)⟩, ⟨some 42, .load 1 false (.tmp 41), some (32, false)⟩, ⟨some 43, .pick (.tmp 32) (.const (.bool true)) (.tmp 42), none⟩]) (.cond (.tmp 43) (.seq (.ops [⟨some 44, .mov (.tmp 5), none⟩, ⟨some 4, .mov (.tmp 44), none⟩]) .ret) .skip)) (.seq (.seq (.ops [⟨some 8, .mov (.const (.int .i64 0)), none⟩]) (.block 0 (.loop (.seq (.seq (.ops [⟨some 45, .mov (.tmp 8), none⟩, ⟨some 46, .fadr 0 (.tmp 2), none⟩, ⟨some 47, .load 1 false (.tmp 46), none⟩, ⟨some 48, .bin .lss (.tmp 45) (.tmp 47), none⟩]) (.cond (.tmp 48) .skip (.exit 0))) (.seq (.block 1 (.seq (.ops [⟨some 52, .load 2 true (.tmp 2), none⟩, ⟨some 53, .mov (.tmp 8), none⟩, ⟨some 54, .call 52 [(.tmp 52), (.tmp 53)], none⟩, ⟨some 51, .mov (.tmp 54), none⟩, ⟨some 55, .ext (.tmp 51) 0, none⟩, ⟨some 56, .ext (.tmp 51) 1, none⟩, ⟨some 9, .mov (.tmp 55), none⟩, ⟨some 10, .mov (.tmp 56), none⟩]) (.seq (.ops [⟨some 57, .mov (.tmp 8), none⟩, ⟨some 58, .mov (.tmp 1), none⟩, ⟨some 59, .bin .neq (.tmp 57) (.tmp 58), none⟩, ⟨some 60, .mov (.tmp 59), none⟩, ⟨some 61, .mov (.tmp 9), some (60, true)⟩, ⟨some 62, .mov (.tmp 6), some (60, true)⟩, ⟨some 63, .bin .eql (.tmp 61) (.tmp 62), some (60, true)⟩, ⟨some 64, .pick (.tmp 60) (.tmp 63) (.const (.bool false)), none⟩, ⟨some 65, .mov (.tmp 64), none⟩, ⟨some 66, .fadr 1 (.tmp 2), some (65, true)⟩, ⟨some 67, .load 1 false (.tmp 66), some (65, true)⟩, ⟨some 68, .mov (.tmp 9), some (65, true)⟩, ⟨some 69, .iadr 2 (.tmp 67) (.tmp 68), some (65, true)⟩, ⟨some 70, .fadr 1 (.tmp 69), some (65, true)⟩, ⟨some 71, .load 1 false (.tmp 70), some (65, true)⟩, ⟨some 72, .mov (.tmp 10), some (65, true)⟩, ⟨some 73, .iadr 2 (.tmp 71) (.tmp 72), some (65, true)⟩, ⟨some 74, .fadr 1 (.tmp 73), some (65, true)⟩, ⟨some 75, .load 1 false (.tmp 74), some (65, true)⟩, ⟨some 76, .una .not (.tmp 75), some (65, true)⟩, ⟨some 77, .pick (.tmp 65) (.tmp 76) (.const (.bool false)), none⟩]) (.cond (.tmp 77) (.ops [⟨some 78, .mov (.tmp 5), none⟩, ⟨some 79, .mov (.tmp 8), none⟩, ⟨some 80, .blds .int 1 [(0, 1, (.tmp 79))], none⟩, ⟨some 81, .app .int 8 (.tmp 78) (.tmp 80), none⟩, ⟨some 5, .mov (.tmp 81), none⟩]) .skip)))) (.ops [⟨some 49, .mov (.tmp 8), none⟩, ⟨some 50, .bin .add (.tmp 49) (.const (.int .i64 1)), none⟩, ⟨some 8, .mov (.tmp 50), none⟩])))))) (.seq (.ops [⟨some 82, .mov (.tmp 5), none⟩, ⟨some 4, .mov (.tmp 82), none⟩]) .ret)))))))
@[reducible] def rv39 : List RV := [.tmp 4]
theorem low39 : lowC Try.prog tau Try.f39.ntmps (Try.f39.body.getD .skip) = some (erase ic39) := by kernel_rfl
theorem res39 : lowR Try.prog Try.f39.results.toList = some rv39 := by kernel_rfl
theorem bod39 : Try.f39.body = some (Try.f39.body.getD .skip) := by kernel_rfl
theorem cal39 : callable Try.prog 39 = true := by kernel_rfl

end Go.Proofs.YtnbfnpnephfjaaaE

/-! The code of a function, in the engine's words. -/
namespace Go.Proofs.YtnbfnpnephfjaaaE
open Go Go.RowKit
@[reducible] def ic40 : IC := (.seq (.ops [⟨some 2, .box (.tmp 0), none⟩, ⟨some 4, .mov (.const (.slice none 0 0)), none⟩]) (.seq (.seq (.ops [⟨some 10, .load 2 true (.tmp 2), none⟩, ⟨some 11, .call 16 [(.tmp 10)], none⟩, ⟨some 12, .una .not (.tmp 11), none⟩]) (.cond (.tmp 12) (.seq (.ops [⟨some 4, .mov (.const (.slice none 0 0)), none⟩]) .ret) .skip)) (.seq (.ops [⟨some 14, .load 2 true (.tmp 2), none⟩, ⟨some 15, .mov (.tmp 1), none⟩, ⟨some 16, .call 53 [(.tmp 14), (.tmp 15)], none⟩, ⟨some 13, .mov (.tmp 16), none⟩, ⟨some 17, .ext (.tmp 13) 0, none⟩, ⟨some 18, .ext (.tmp 13) 1, none⟩, ⟨some 5, .mov (.tmp 17), none⟩, ⟨some 6, .mov (.tmp 18), none⟩]) (.seq (.seq (.ops [⟨some 19, .mov (.tmp 5), none⟩, ⟨some 20, .bin .lss (.tmp 19) (.const (.int .i64 0)), none⟩, ⟨some 21, .mov (.tmp 20), none⟩, ⟨some 22, .fadr 1 (.tmp 2), some (21, false)⟩, ⟨some 23, .load 1 false (.tmp 22), some (21, false)⟩, ⟨some 24, .mov (.tmp 5), some (21, false)⟩, ⟨some 25, .iadr 2 (.tmp 23) (.tmp 24), some (21, false)⟩, ⟨some 26, .fadr 0 (.tmp 25), some (21, false)⟩, ⟨some 27, .load 1 false (.tmp 26), some (21, false)⟩, ⟨some 28, .pick (.tmp 21) (.const (.bool true)) (.tmp 27), none⟩, ⟨some 29, .mov (.tmp 28), none⟩, ⟨some 30, .fadr 1 (.tmp 2), some (29, false)⟩, ⟨some 31, .load 1 false (.tmp 30), some (29, false)⟩, ⟨some 32, .mov (.tmp 5), some (29, false)⟩, ⟨some 33, .iadr 2 (.tmp 31) (.tmp 32), some (29, false)⟩, ⟨some 34, .fadr 1 (.tmp 33), some (29, false)⟩, ⟨some 35, .load 1 false (.tmp 34), some (29, false)⟩, ⟨some 36, .mov (.tmp 6), some (29, false)⟩, ⟨some 37, .iadr 2 (.tmp 35) (.tmp 36), some (29, false)⟩, ⟨some 38, .fadr 1 (.tmp 37), some (29, false)⟩, ⟨some 39, .load 1 false (.tmp 38), some (29, false)⟩, ⟨some 40, .pick (.tmp 29) (.const (.bool true)) (.tmp 39), none⟩]) (.cond (.tmp 40) (.seq (.ops [⟨some 4, .mov (.const (.slice none 0 0)), none⟩]) .ret) .skip)) (.seq (.ops [⟨some 7, .mov (.const (.slice none 0 0)), none⟩]) (.seq (.seq (.ops [⟨some 41, .fadr 1 (.tmp 2), none⟩, ⟨some 42, .load 1 false (.tmp 41), none⟩, ⟨some 43, .mov (.tmp 5), none⟩, ⟨some 44, .iadr 2 (.tmp 42) (.tmp 43), none⟩, ⟨some 45, .fadr 1 (.tmp 44), none⟩, ⟨some 46, .load 1 false (.tmp 45), none⟩, ⟨some 47, .len (.tmp 46), none⟩, ⟨some 48, .mov (.const (.int .i64 0)), none⟩]) (.block 0 (.loop (.seq (.ops [⟨some 49, .bin .lss (.tmp 48) (.tmp 47), none⟩]) (.seq (.cond (.tmp 49) .skip (.exit 0)) (.seq (.block 1 (.seq (.ops [⟨some 50, .iadr 2 (.tmp 46) (.tmp 48), none⟩, ⟨some 51, .load 2 true (.tmp 50), none⟩, ⟨some 9, .new [(.int .i64 0), (.bool false)], none⟩, ⟨none, .store 2 (.tmp 9) (.tmp 51), none⟩]) (.seq (.ops [⟨some 52, .fadr 0 (.tmp 9), none⟩, ⟨some 53, .load 1 false (.tmp 52), none⟩, ⟨some 54, .mov (.tmp 1), none⟩, ⟨some 55, .bin .neq (.tmp 53) (.tmp 54), none⟩, ⟨some 56, .mov (.tmp 55), none⟩, ⟨some 57, .fadr 1 (.tmp 9), some (56, true)⟩, ⟨some 58, .load 1 false (.tmp 57), some (56, true)⟩, ⟨some 59, .una .not (.tmp 58), some (56, true)⟩, ⟨some 60, .pick (.tmp 56) (.tmp 59) (.const (.bool false)), none⟩]) (.cond (.tmp 60) (.ops [⟨some 61, .mov (.tmp 7), none⟩, ⟨some 62, .fadr 0 (.tmp 9), none⟩, ⟨some 63, .load 1 false (.tmp 62), none⟩, ⟨some 64, .blds .int 1 [(0, 1, (.tmp 63))], none⟩, ⟨some 65, .app .int 8 (.tmp 61) (.tmp 64), none⟩, ⟨some 7, .mov (.tmp 65), none⟩]) .skip)))) (.ops [⟨some 66, .bin .add (.tmp 48) (.const (.int .i64 1)), none⟩, ⟨some 48, .mov (.tmp 66), none⟩]))))))) (.seq (.ops [⟨some 67, .mov (.tmp 7), none⟩, ⟨some 68, .call 74 [(.tmp 67)], none⟩]) (.seq (.ops [⟨some 69, .mov (.tmp 7), none⟩, ⟨some 4, .mov (.tmp 69), none⟩]) .ret))))))))
@[reducible] def rv40 : List RV := [.tmp 4]
theorem low40 : lowC Try.prog tau Try.f40.ntmps (Try.f40.body.getD .skip) = some (erase ic40) := by kernel_rfl
theorem res40 : lowR Try.prog Try.f40.results.toList = some rv40 := by kernel_rfl
theorem bod40 : Try.f40.body = some (Try.f40.body.getD .skip) := by kernel_rfl
theorem cal40 : callable Try.prog 40 = true := by kernel_rfl

end Go.Proofs.YtnbfnpnephfjaaaE

/-! Who is heard on a line. -/
namespace Go.Proofs.YtnbfnpnephfjaaaE
open Go Go.RowKit
set_option linter.unusedSimpArgs false
set_option linter.unusedVariables false
set_option maxRecDepth 20000
set_option maxHeartbeats 8000000
theorem findI_bd (cs : List Cal) (x : Int) : -1 ≤ findI cs x ∧ findI cs x < cs.length := by unfold findI; split <;> omega
theorem findK_bd {cs : List Cal} {x : Int} (h : 0 ≤ findI cs x) : (findI cs x).toNat < cs.length ∧ 0 ≤ findK cs x ∧ (findK cs x).toNat < (cs.getD (findI cs x).toNat (⟨false, []⟩ : Cal)).legs.length ∧ ((cs.getD (findI cs x).toNat (⟨false, []⟩ : Cal)).legs.getD (findK cs x).toNat (⟨0, false⟩ : Lg)).line = x := by
  unfold findI at h
  split at h
  · rename_i h1
    have e1 : findI cs x = (cs.findIdx (hasL x) : Nat) := by unfold findI; rw [if_pos h1]
    have e2 : findK cs x = ((cs.getD (cs.findIdx (hasL x)) (⟨false, []⟩ : Cal)).legs.findIdx (isL x) : Nat) := by unfold findK; rw [if_pos h1]
    rw [e1, e2, Int.toNat_natCast, Int.toNat_natCast]
    have h2 := (idx_is (⟨false, []⟩ : Cal) h1).1
    have h3 : (cs.getD (cs.findIdx (hasL x)) (⟨false, []⟩ : Cal)).legs.findIdx (isL x) < (cs.getD (cs.findIdx (hasL x)) (⟨false, []⟩ : Cal)).legs.length := List.findIdx_lt_length_of_exists (List.any_eq_true.1 h2)
    refine ⟨h1, by omega, h3, ?_⟩
    exact of_decide_eq_true (idx_is (⟨0, false⟩ : Lg) h3).1
  · omega
def legAt (cs : List Cal) (z : Int) : Lg := (cs.getD (findI cs z).toNat (⟨false, []⟩ : Cal)).legs.getD (findK cs z).toNat (⟨0, false⟩ : Lg)
def canHear (l : Int) (cs : List Cal) (x : Int) : Bool := panelOk l cs && (decide (0 ≤ findI cs x) && (!(cs.getD (findI cs x).toNat (⟨false, []⟩ : Cal)).pk && !(legAt cs x).held))
def hearP (cs : List Cal) (x z : Int) : Bool := decide (z ≠ x ∧ findI cs z = findI cs x) && !(legAt cs z).held
def hears (cs : List Cal) (x : Int) (n : Nat) : List Int := ((List.range n).map fun (i : Nat) => (i : Int)).filter (hearP cs x)
def heard (l : Int) (cs : List Cal) (x : Int) : List Int := if canHear l cs x = true then hears cs x l.toNat else []
theorem hears_zero (cs : List Cal) (x : Int) : hears cs x 0 = [] := rfl
theorem hears_succ (cs : List Cal) (x : Int) (n : Nat) : hears cs x (n + 1) = if hearP cs x (n : Int) = true then hears cs x n ++ [(n : Int)] else hears cs x n := by
  unfold hears
  rw [List.range_succ, List.map_append, List.filter_append]
  simp only [List.map_cons, List.map_nil, List.filter_cons, List.filter_nil]
  split <;> simp_all
theorem hears_len (cs : List Cal) (x : Int) (n : Nat) : (hears cs x n).length ≤ n := by
  unfold hears
  refine Nat.le_trans (List.length_filter_le _ _) (by simp)
def spHeardS : Spec := ⟨fun _ _ => [], fun args objs K => match args, objs with
  | [.agg [.v (.int .i64 l), .rs .call cs], .v (.int .i64 x)], [] => (cs.length ≤ 1099511627776 ∧ legsOk2 cs) ∧ K (.sub 0 1 0 (heard l cs x).length) [(0, .row .int (heard l cs x))] 1
  | _, _ => False, false⟩
theorem spHeardS_t {L : Hp} {a : List AVal} : Spec.take spHeardS L a = [] := id rfl
theorem spHeardS_k : Spec.keep spHeardS = false := id rfl
theorem spHeardS_f {l} {cs} {x} {K : AVal → Hp → Nat → Prop} : Spec.f spHeardS ([.agg [.v (.int .i64 l), .rs .call cs], .v (.int .i64 x)]) ([]) K = ((cs.length ≤ 1099511627776 ∧ legsOk2 cs) ∧ K (.sub 0 1 0 (heard l cs x).length) [(0, .row .int (heard l cs x))] 1) := id rfl
theorem valid39 : Valid Try.prog 39 spHeardS := by
  refine validI (Γ := lk [(14, spPanelOk), (52, spFind)]) Try.func39 bod39 low39 res39 (good_of ⟨⟨cal14, valid14⟩, ⟨cal52, valid52⟩, trivial⟩) ?_
  intro E args objs K h hE hG hP
  simp only [spHeardS] at h
  split at h
  · refine ⟨by simp [Try.ntmps39], ?_⟩
    rename_i l cs x
    obtain ⟨⟨hlen, hlegs⟩, h⟩ := h
    have hno : canHear l cs x = false → K (.sub 0 1 0 0) [(0, .row .int [])] 1 := fun e => by
      have : heard l cs x = [] := by unfold heard; rw [e]; rfl
      rw [this] at h; exact h
    have hfb := findI_bd cs x
    have hkb := findK_bd (cs := cs) (x := x)
    simp (config := { maxSteps := 2000000 }) only [go_sem, hG, hP, Nat.reduceEqDiff, ↓reduceIte, reduceCtorEq, Nat.reduceAdd, Nat.reduceSub, Nat.reduceMul, Nat.reduceLT, Nat.reduceLeDiff, Int.reduceAdd, Int.reduceSub, Int.reduceMul, Int.reduceLT, Int.reduceLE, Int.reduceEq, Int.reduceNeg, Int.reduceNe, Int.reduceGE, Int.reduceGT, Nat.reduceBEq, Int.reduceToNat,  spPanelOk_f, spPanelOk_t, spPanelOk_k, spFind_f, spFind_t, spFind_k]
    repeat (refine And.intro (by first | omega | (simp; done) | (simp; omega) | (unfold appRoom; omega)) ?_)
    refine ⟨⟨hlen, hlegs⟩, fun h1 => ⟨_, _, _, ?_, hno (by simp [canHear, h1])⟩, fun h1 => ⟨⟨hlen, hlegs⟩, ?_⟩⟩
    · simp (config := { maxSteps := 2000000 }) only [go_sem, hG, hP, Nat.reduceEqDiff, ↓reduceIte, reduceCtorEq, Nat.reduceAdd, Nat.reduceSub, Nat.reduceMul, Nat.reduceLT, Nat.reduceLeDiff, Int.reduceAdd, Int.reduceSub, Int.reduceMul, Int.reduceLT, Int.reduceLE, Int.reduceEq, Int.reduceNeg, Int.reduceNe, Int.reduceGE, Int.reduceGT, Nat.reduceBEq, Int.reduceToNat]
    repeat' (first | (refine And.intro ?_ ?_) | (with_reducible intro _))
    all_goals first
      | omega
      | (have hk := hkb (by omega); omega)
      | (refine ⟨_, _, _, ?_, hno (by simp [canHear, legAt]; grind)⟩; simp (config := { maxSteps := 2000000 }) only [go_sem, hG, hP, Nat.reduceEqDiff, ↓reduceIte, reduceCtorEq, Nat.reduceAdd, Nat.reduceSub, Nat.reduceMul, Nat.reduceLT, Nat.reduceLeDiff, Int.reduceAdd, Int.reduceSub, Int.reduceMul, Int.reduceLT, Int.reduceLE, Int.reduceEq, Int.reduceNeg, Int.reduceNe, Int.reduceGE, Int.reduceGT, Nat.reduceBEq, Int.reduceToNat]; done)
      | skip
    have hcan : canHear l cs x = true := by simp [canHear, legAt]; grind
    have hl1 : (1 ≤ l ∧ l ≤ 40) := by
      have : panelOk l cs = true := by simp [canHear] at hcan; exact hcan.1
      exact (panelOk_iff.1 this).1
    have hhd : heard l cs x = hears cs x l.toNat := by unfold heard; rw [if_pos hcan]
    rw [hhd] at h
    refine loopI hE (fun j : Nat => ⟨[(1, .v (.int .i64 x)), (2, .ptr 0 0), (5, .sub 1 1 0 (hears cs x j).length), (6, .v (.int .i64 (findI cs x))), (8, .v (.int .i64 j))], [(0, .box [.v (.int .i64 l), .rs .call cs]), (1, .row .int (hears cs x j))], 2, Try.f39.ntmps⟩) (fun j => j ≤ l.toNat) (fun j => l.toNat - j) ⟨0, Nat.zero_le _, SubS.weak ?_⟩ ?_
    · simp (config := { maxSteps := 2000000 }) only [go_sem, hG, hP, Nat.reduceEqDiff, ↓reduceIte, reduceCtorEq, Nat.reduceAdd, Nat.reduceSub, Nat.reduceMul, Nat.reduceLT, Nat.reduceLeDiff, Int.reduceAdd, Int.reduceSub, Int.reduceMul, Int.reduceLT, Int.reduceLE, Int.reduceEq, Int.reduceNeg, Int.reduceNe, Int.reduceGE, Int.reduceGT, Nat.reduceBEq, Int.reduceToNat]
      repeat' (first | with_reducible rfl | (refine And.intro ?_ ?_) | (refine congrArg (Value.int _) ?_; omega) | omega)
      all_goals rfl
    · intro j hj
      have hjb := findI_bd cs (j : Int)
      have hjk := findK_bd (cs := cs) (x := (j : Int))
      have hjl := hears_len cs x j
      simp (config := { maxSteps := 2000000 }) only [go_sem, hG, hP, Nat.reduceEqDiff, ↓reduceIte, reduceCtorEq, Nat.reduceAdd, Nat.reduceSub, Nat.reduceMul, Nat.reduceLT, Nat.reduceLeDiff, Int.reduceAdd, Int.reduceSub, Int.reduceMul, Int.reduceLT, Int.reduceLE, Int.reduceEq, Int.reduceNeg, Int.reduceNe, Int.reduceGE, Int.reduceGT, Nat.reduceBEq, Int.reduceToNat,  spFind_f, spFind_t, spFind_k]
      (try simp (disch := omega) only [wrap_id])
      repeat' (first | (refine And.intro ?_ ?_) | (with_reducible intro _))
      all_goals first
        | omega
        | (unfold appRoom; omega)
        | (have hk := hjk (by omega); omega)
        | skip
      all_goals first
        | (refine ⟨j + 1, ⟨by omega, by omega⟩, SubS.weak ?_⟩
           rw [hears_succ, if_pos (by simp [hearP, legAt]; grind)]
           simp (config := { maxSteps := 2000000 }) only [go_sem, hG, hP, Nat.reduceEqDiff, ↓reduceIte, reduceCtorEq, Nat.reduceAdd, Nat.reduceSub, Nat.reduceMul, Nat.reduceLT, Nat.reduceLeDiff, Int.reduceAdd, Int.reduceSub, Int.reduceMul, Int.reduceLT, Int.reduceLE, Int.reduceEq, Int.reduceNeg, Int.reduceNe, Int.reduceGE, Int.reduceGT, Nat.reduceBEq, Int.reduceToNat]
           repeat' (first | with_reducible rfl | (refine And.intro ?_ ?_) | (refine congrArg (Value.int _) ?_; omega) | omega)
           all_goals (first | (simp; done) | rfl)
           done)
        | (refine ⟨j + 1, ⟨by omega, by omega⟩, SubS.weak ?_⟩
           rw [hears_succ, if_neg (by simp [hearP, legAt]; grind)]
           simp (config := { maxSteps := 2000000 }) only [go_sem, hG, hP, Nat.reduceEqDiff, ↓reduceIte, reduceCtorEq, Nat.reduceAdd, Nat.reduceSub, Nat.reduceMul, Nat.reduceLT, Nat.reduceLeDiff, Int.reduceAdd, Int.reduceSub, Int.reduceMul, Int.reduceLT, Int.reduceLE, Int.reduceEq, Int.reduceNeg, Int.reduceNe, Int.reduceGE, Int.reduceGT, Nat.reduceBEq, Int.reduceToNat]
           repeat' (first | with_reducible rfl | (refine And.intro ?_ ?_) | (refine congrArg (Value.int _) ?_; omega) | omega)
           done)
        | (refine ⟨_, _, _, ?_, h⟩
           simp (config := { maxSteps := 2000000 }) only [go_sem, hG, hP, Nat.reduceEqDiff, ↓reduceIte, reduceCtorEq, Nat.reduceAdd, Nat.reduceSub, Nat.reduceMul, Nat.reduceLT, Nat.reduceLeDiff, Int.reduceAdd, Int.reduceSub, Int.reduceMul, Int.reduceLT, Int.reduceLE, Int.reduceEq, Int.reduceNeg, Int.reduceNe, Int.reduceGE, Int.reduceGT, Nat.reduceBEq, Int.reduceToNat]
           have e : j = l.toNat := by omega
           rw [e]
           repeat' (first | with_reducible rfl | (refine And.intro ?_ ?_) | (refine congrArg (Value.int _) ?_; omega) | omega)
           done)
        | skip
      skip
      done
  · exact h.elim

end Go.Proofs.YtnbfnpnephfjaaaE

/-! Who is heard, as the program finds it. -/
namespace Go.Proofs.YtnbfnpnephfjaaaE
open Go Go.RowKit
set_option linter.unusedSimpArgs false
set_option linter.unusedVariables false
set_option maxRecDepth 20000
set_option maxHeartbeats 8000000
abbrev lineAt (cs : List Cal) (i k : Nat) : Int := ((cs.getD i (⟨false, []⟩ : Cal)).legs.getD k (⟨0, false⟩ : Lg)).line
theorem mem_pre {cs : List Cal} {i k i' k' : Nat} (hi : i < cs.length) (hk : k < (cs.getD i (⟨false, []⟩ : Cal)).legs.length) (hi' : i' < cs.length) (h : i < i' ∨ i = i' ∧ k < k') (hk' : k' ≤ (cs.getD i' (⟨false, []⟩ : Cal)).legs.length) : lineAt cs i k ∈ preL cs i' k' := by
  unfold preL
  rcases h with h | ⟨rfl, h⟩
  · refine List.mem_append_left _ ?_
    unfold linesOf
    refine List.mem_flatten.2 ⟨(cs.getD i (⟨false, []⟩ : Cal)).legs.map Lg.line, List.mem_map.2 ⟨cs.getD i (⟨false, []⟩ : Cal), ?_, rfl⟩, List.mem_map.2 ⟨(cs.getD i (⟨false, []⟩ : Cal)).legs.getD k (⟨0, false⟩ : Lg), ?_, rfl⟩⟩
    · rw [getD_in hi]
      exact List.mem_iff_getElem.2 ⟨i, by simp; omega, by simp⟩
    · rw [getD_in hk]; exact List.getElem_mem hk
  · refine List.mem_append_right _ (List.mem_map.2 ⟨(cs.getD i (⟨false, []⟩ : Cal)).legs.getD k (⟨0, false⟩ : Lg), ?_, rfl⟩)
    rw [getD_in hk]
    exact List.mem_iff_getElem.2 ⟨k, by rw [List.length_take]; omega, by simp⟩
theorem uniq_lt {l : Int} {cs : List Cal} (h : Good l (linesOf cs)) {i k i' k' : Nat} (hi : i < cs.length) (hk : k < (cs.getD i (⟨false, []⟩ : Cal)).legs.length) (hi' : i' < cs.length) (hk' : k' < (cs.getD i' (⟨false, []⟩ : Cal)).legs.length) (hlt : i < i' ∨ i = i' ∧ k < k') : lineAt cs i k ≠ lineAt cs i' k' := by
  intro e
  obtain ⟨R, hR⟩ := preL_pref (cs := cs) (k := k' + 1) hi'
  rw [hR, preL_step hk'] at h
  have hm := mem_pre hi hk hi' hlt (by omega : k' ≤ _)
  rw [e] at hm
  exact h.pre.last.2 hm
theorem uniq {l : Int} {cs : List Cal} (h : Good l (linesOf cs)) {i k i' k' : Nat} (hi : i < cs.length) (hk : k < (cs.getD i (⟨false, []⟩ : Cal)).legs.length) (hi' : i' < cs.length) (hk' : k' < (cs.getD i' (⟨false, []⟩ : Cal)).legs.length) (e : lineAt cs i k = lineAt cs i' k') : i = i' ∧ k = k' := by
  have h1 := uniq_lt h hi hk hi' hk'
  have h2 := uniq_lt h hi' hk' hi hk
  grind
/-- The line of a leg is found there. -/
theorem find_at {l : Int} {cs : List Cal} (h : Good l (linesOf cs)) {i k : Nat} (hi : i < cs.length) (hk : k < (cs.getD i (⟨false, []⟩ : Cal)).legs.length) : findI cs (lineAt cs i k) = i ∧ findK cs (lineAt cs i k) = k := by
  have h0 : 0 ≤ findI cs (lineAt cs i k) := by
    rcases Int.lt_or_le (findI cs (lineAt cs i k)) 0 with h1 | h1
    · exfalso
      unfold findI at h1
      split at h1
      · omega
      · rename_i h2
        exact h2 (List.findIdx_lt_length_of_exists ⟨cs[i], List.getElem_mem hi, by rw [← getD_in (d := (⟨false, []⟩ : Cal)) hi]; exact has_at hk rfl⟩)
    · exact h1
  obtain ⟨a1, a2, a3, a4⟩ := findK_bd h0
  obtain ⟨e1, e2⟩ := uniq h a1 a3 hi hk a4
  omega
theorem good_line {l : Int} {cs : List Cal} (h : Good l (linesOf cs)) {i k : Nat} (hi : i < cs.length) (hk : k < (cs.getD i (⟨false, []⟩ : Cal)).legs.length) : 0 ≤ lineAt cs i k ∧ lineAt cs i k < l := by
  obtain ⟨R, hR⟩ := preL_pref (cs := cs) (k := k + 1) hi
  rw [hR, preL_step hk] at h
  exact h.pre.last.1
def legP (x : Int) (g : Lg) : Bool := decide (g.line ≠ x) && !g.held
def raws (gs : List Lg) (x : Int) (k : Nat) : List Int := ((gs.take k).filter (legP x)).map Lg.line
theorem raws_step {gs : List Lg} {x : Int} {k : Nat} (h : k < gs.length) : raws gs x (k + 1) = if legP x (gs.getD k (⟨0, false⟩ : Lg)) = true then raws gs x k ++ [(gs.getD k (⟨0, false⟩ : Lg)).line] else raws gs x k := by
  unfold raws
  rw [List.take_succ_eq_append_getElem h, getD_in h, List.filter_append, List.map_append]
  simp only [List.filter_cons, List.filter_nil]
  split <;> simp
theorem raws_len (gs : List Lg) (x : Int) (k : Nat) : (raws gs x k).length ≤ gs.length := by
  unfold raws
  rw [List.length_map]
  exact Nat.le_trans (List.length_filter_le _ _) (by simp; omega)
theorem srt_pair {ys : List Int} (h : Srt ys) : ys.Pairwise (· ≤ ·) := by
  rw [List.pairwise_iff_getElem]
  intro i j hi hj hij
  have := h i j hij hj
  rwa [getD_in hi, getD_in hj] at this
theorem raw_heard {l : Int} {cs : List Cal} {x : Int} (hc : canHear l cs x = true) {ys : List Int} (hp : ys.Perm (raws (cs.getD (findI cs x).toNat (⟨false, []⟩ : Cal)).legs x (cs.getD (findI cs x).toNat (⟨false, []⟩ : Cal)).legs.length)) (hs : Srt ys) : ys = heard l cs x := by
  unfold heard
  rw [if_pos hc]
  simp only [canHear, Bool.and_eq_true, decide_eq_true_eq] at hc
  obtain ⟨hok, h0, _, _⟩ := hc
  obtain ⟨hlb, hcs, hg⟩ := panelOk_iff.1 hok
  obtain ⟨a1, a2, a3, a4⟩ := findK_bd h0
  have n1 : ((List.range l.toNat).map fun (i : Nat) => (i : Int)).Pairwise (· < ·) := by
    rw [List.pairwise_map]
    exact (List.pairwise_lt_range).imp fun h => by omega
  have n2 : (hears cs x l.toNat).Pairwise (· < ·) := n1.filter _
  refine List.Perm.eq_of_pairwise (le := (· ≤ ·)) (fun a b _ _ h1 h2 => Int.le_antisymm h1 h2) (srt_pair hs) (n2.imp fun h => Int.le_of_lt h) (hp.trans ?_)
  refine (List.perm_ext_iff_of_nodup ?_ (n2.imp fun h => Int.ne_of_lt h)).2 fun z => ?_
  · unfold raws
    rw [List.take_length]
    refine List.Pairwise.sublist (List.Sublist.map _ (List.filter_sublist)) ?_
    obtain ⟨R, hR⟩ := preL_pref (cs := cs) (k := (cs.getD (findI cs x).toNat (⟨false, []⟩ : Cal)).legs.length) a1
    rw [hR] at hg
    have := hg.pre.nd
    unfold preL at this
    rw [List.take_length] at this
    exact (List.nodup_append.1 this).2.1
  · unfold raws hears
    rw [List.take_length]
    simp only [List.mem_map, List.mem_filter, List.mem_range, legP, hearP, Bool.and_eq_true, decide_eq_true_eq, Bool.not_eq_true', decide_eq_false_iff_not]
    constructor
    · rintro ⟨g, ⟨hg1, hg2, hg3⟩, rfl⟩
      obtain ⟨k, hk, rfl⟩ := List.getElem_of_mem hg1
      have e1 := find_at hg a1 hk
      have e2 := good_line hg a1 hk
      unfold lineAt at e1 e2
      rw [getD_in hk] at e1 e2
      refine ⟨⟨((cs.getD (findI cs x).toNat (⟨false, []⟩ : Cal)).legs[k].line).toNat, by omega, by omega⟩, ⟨hg2, by omega⟩, ?_⟩
      unfold legAt
      rw [e1.1, e1.2, Int.toNat_natCast, Int.toNat_natCast, getD_in hk]
      exact hg3
    · rintro ⟨⟨i, hi, rfl⟩, ⟨h1, h2⟩, h3⟩
      have b0 : 0 ≤ findI cs (i : Int) := by omega
      obtain ⟨b1, b2, b3, b4⟩ := findK_bd b0
      unfold legAt at h3
      rw [h2] at b3 b4 h3
      refine ⟨_, ⟨?_, ?_, h3⟩, b4⟩
      · rw [getD_in b3]; exact List.getElem_mem b3
      · rw [b4]; exact h1
/-- What is heard; nothing: no row. -/
def heardK (v : List Int) (K : AVal → Hp → Nat → Prop) : Prop := impK (v = []) (K (.v (.slice none 0 0)) [] 0) ∧ impK (¬ v = []) (K (.sub 0 1 0 v.length) [(0, .row .int v)] 1)
theorem heardK_eq {v : List Int} {K : AVal → Hp → Nat → Prop} : heardK v K = (impK (v = []) (K (.v (.slice none 0 0)) [] 0) ∧ impK (¬ v = []) (K (.sub 0 1 0 v.length) [(0, .row .int v)] 1)) := id rfl
def spHeardI : Spec := ⟨fun _ _ => [], fun args objs K => match args, objs with
  | [.agg [.v (.int .i64 l), .rs .call cs], .v (.int .i64 x)], [] => (cs.length ≤ 1099511627776 ∧ legsOk2 cs) ∧ heardK (heard l cs x) K
  | _, _ => False, false⟩
theorem spHeardI_t {L : Hp} {a : List AVal} : Spec.take spHeardI L a = [] := id rfl
theorem spHeardI_k : Spec.keep spHeardI = false := id rfl
theorem spHeardI_f {l} {cs} {x} {K : AVal → Hp → Nat → Prop} : Spec.f spHeardI ([.agg [.v (.int .i64 l), .rs .call cs], .v (.int .i64 x)]) ([]) K = ((cs.length ≤ 1099511627776 ∧ legsOk2 cs) ∧ heardK (heard l cs x) K) := id rfl
theorem valid40 : Valid Try.prog 40 spHeardI := by
  refine validI (Γ := lk [(16, spPanelOk), (53, spFind), (74, spSort)]) Try.func40 bod40 low40 res40 (good_of ⟨⟨cal16, valid16⟩, ⟨cal53, valid53⟩, ⟨cal74, valid74⟩, trivial⟩) ?_
  intro E args objs K h hE hG hP
  simp only [spHeardI, heardK, impK] at h
  split at h
  · refine ⟨by simp [Try.ntmps40], ?_⟩
    rename_i l cs x
    obtain ⟨⟨hlen, hlegs⟩, hnil, hsub⟩ := h
    have hno : canHear l cs x = false → K (.v (.slice none 0 0)) [] 0 := fun e => hnil (by unfold heard; rw [e]; rfl)
    have hfb := findI_bd cs x
    have hkb := findK_bd (cs := cs) (x := x)
    simp (config := { maxSteps := 2000000 }) only [go_sem, hG, hP, Nat.reduceEqDiff, ↓reduceIte, reduceCtorEq, Nat.reduceAdd, Nat.reduceSub, Nat.reduceMul, Nat.reduceLT, Nat.reduceLeDiff, Int.reduceAdd, Int.reduceSub, Int.reduceMul, Int.reduceLT, Int.reduceLE, Int.reduceEq, Int.reduceNeg, Int.reduceNe, Int.reduceGE, Int.reduceGT, Nat.reduceBEq, Int.reduceToNat,  spPanelOk_f, spPanelOk_t, spPanelOk_k, spFind_f, spFind_t, spFind_k, gSort0, gSort1, gSortt, gSortk, take1_v, take1_s]
    repeat (refine And.intro (by first | omega | (simp; done) | (simp; omega) | (unfold appRoom; omega)) ?_)
    refine ⟨⟨hlen, hlegs⟩, fun h1 => ⟨_, _, _, ?_, hno (by simp [canHear, h1])⟩, fun h1 => ⟨⟨hlen, hlegs⟩, ?_⟩⟩
    · simp (config := { maxSteps := 2000000 }) only [go_sem, hG, hP, Nat.reduceEqDiff, ↓reduceIte, reduceCtorEq, Nat.reduceAdd, Nat.reduceSub, Nat.reduceMul, Nat.reduceLT, Nat.reduceLeDiff, Int.reduceAdd, Int.reduceSub, Int.reduceMul, Int.reduceLT, Int.reduceLE, Int.reduceEq, Int.reduceNeg, Int.reduceNe, Int.reduceGE, Int.reduceGT, Nat.reduceBEq, Int.reduceToNat]
    repeat' (first | (refine And.intro ?_ ?_) | (with_reducible intro _))
    all_goals first
      | omega
      | (have hk := hkb (by omega); omega)
      | (refine ⟨_, _, _, ?_, hno (by simp [canHear, legAt]; grind)⟩; simp (config := { maxSteps := 2000000 }) only [go_sem, hG, hP, Nat.reduceEqDiff, ↓reduceIte, reduceCtorEq, Nat.reduceAdd, Nat.reduceSub, Nat.reduceMul, Nat.reduceLT, Nat.reduceLeDiff, Int.reduceAdd, Int.reduceSub, Int.reduceMul, Int.reduceLT, Int.reduceLE, Int.reduceEq, Int.reduceNeg, Int.reduceNe, Int.reduceGE, Int.reduceGT, Nat.reduceBEq, Int.reduceToNat]; done)
      | skip
    have hcan : canHear l cs x = true := by simp [canHear, legAt]; grind
    have hx0 : 0 ≤ findI cs x := by omega
    obtain ⟨a1, a2, a3, a4⟩ := hkb hx0
    have hl8 : (cs.getD (findI cs x).toNat (⟨false, []⟩ : Cal)).legs.length ≤ 8 := by
      have := (panelOk_iff.1 h1).2.1 _ (List.getElem_mem a1)
      rw [← getD_in (d := (⟨false, []⟩ : Cal)) a1] at this
      exact (of_decide_eq_true this).2.1
    have hraw := fun (ys : List Int) => raw_heard (ys := ys) hcan
    generalize (cs.getD (findI cs x).toNat (⟨false, []⟩ : Cal)).legs = gs at *
    refine loopI hE (fun p : Bool × Nat => match p with
      | (false, k) => ⟨[(1, .v (.int .i64 x)), (7, .v (.slice none 0 0)), (46, .rs .leg gs), (47, .v (.int .i64 gs.length)), (48, .v (.int .i64 k))], [], 0, Try.f40.ntmps⟩
      | (true, k) => ⟨[(1, .v (.int .i64 x)), (7, .sub 0 1 0 (raws gs x k).length), (46, .rs .leg gs), (47, .v (.int .i64 gs.length)), (48, .v (.int .i64 k))], [(0, .row .int (raws gs x k))], 1, Try.f40.ntmps⟩) (fun p => p.2 ≤ gs.length ∧ (p.1 = false ↔ raws gs x p.2 = [])) (fun p => gs.length - p.2) ⟨(false, 0), ⟨Nat.zero_le _, by simp [raws]⟩, SubS.weak ?_⟩ ?_
    · simp (config := { maxSteps := 2000000 }) only [go_sem, hG, hP, Nat.reduceEqDiff, ↓reduceIte, reduceCtorEq, Nat.reduceAdd, Nat.reduceSub, Nat.reduceMul, Nat.reduceLT, Nat.reduceLeDiff, Int.reduceAdd, Int.reduceSub, Int.reduceMul, Int.reduceLT, Int.reduceLE, Int.reduceEq, Int.reduceNeg, Int.reduceNe, Int.reduceGE, Int.reduceGT, Nat.reduceBEq, Int.reduceToNat]
      repeat' (first | with_reducible rfl | (refine And.intro ?_ ?_) | (refine congrArg (Value.int _) ?_; omega) | omega)
    · rintro ⟨b, k⟩ ⟨hk, hbr⟩
      dsimp only at hk hbr
      have hrl := raws_len gs x k
      have hstep := fun (h : k < gs.length) => raws_step (x := x) h
      cases b
      · dsimp only
        have hr0 : raws gs x k = [] := hbr.1 rfl
        simp (config := { maxSteps := 2000000 }) only [go_sem, hG, hP, Nat.reduceEqDiff, ↓reduceIte, reduceCtorEq, Nat.reduceAdd, Nat.reduceSub, Nat.reduceMul, Nat.reduceLT, Nat.reduceLeDiff, Int.reduceAdd, Int.reduceSub, Int.reduceMul, Int.reduceLT, Int.reduceLE, Int.reduceEq, Int.reduceNeg, Int.reduceNe, Int.reduceGE, Int.reduceGT, Nat.reduceBEq, Int.reduceToNat,  gSort0, gSort1, gSortt, gSortk, take1_v, take1_s]
        (try simp (disch := omega) only [wrap_id])
        repeat' (first | (refine And.intro ?_ ?_) | (with_reducible intro _))
        all_goals first
          | omega
          | (unfold appRoom; omega)
          | skip
        all_goals first
          | (have hp : legP x (gs.getD k (⟨0, false⟩ : Lg)) = true := by simp [legP]; grind
             have hs2 := hstep (by omega)
             rw [if_pos hp, hr0, List.nil_append] at hs2
             refine ⟨(true, k + 1), ⟨⟨by dsimp only; omega, by dsimp only; rw [hs2]; simp⟩, by dsimp only; omega⟩, SubS.weak ?_⟩
             dsimp only
             rw [hs2]
             simp (config := { maxSteps := 2000000 }) only [go_sem, hG, hP, Nat.reduceEqDiff, ↓reduceIte, reduceCtorEq, Nat.reduceAdd, Nat.reduceSub, Nat.reduceMul, Nat.reduceLT, Nat.reduceLeDiff, Int.reduceAdd, Int.reduceSub, Int.reduceMul, Int.reduceLT, Int.reduceLE, Int.reduceEq, Int.reduceNeg, Int.reduceNe, Int.reduceGE, Int.reduceGT, Nat.reduceBEq, Int.reduceToNat]
             repeat' (first | with_reducible rfl | (refine And.intro ?_ ?_) | (refine congrArg (Value.int _) ?_; omega) | omega)
             done)
          | (have hp : legP x (gs.getD k (⟨0, false⟩ : Lg)) = false := by simp [legP]; grind
             have hs2 := hstep (by omega)
             rw [if_neg (by rw [hp]; exact Bool.false_ne_true), hr0] at hs2
             refine ⟨(false, k + 1), ⟨⟨by dsimp only; omega, by dsimp only; rw [hs2]; simp⟩, by dsimp only; omega⟩, SubS.weak ?_⟩
             dsimp only
             simp (config := { maxSteps := 2000000 }) only [go_sem, hG, hP, Nat.reduceEqDiff, ↓reduceIte, reduceCtorEq, Nat.reduceAdd, Nat.reduceSub, Nat.reduceMul, Nat.reduceLT, Nat.reduceLeDiff, Int.reduceAdd, Int.reduceSub, Int.reduceMul, Int.reduceLT, Int.reduceLE, Int.reduceEq, Int.reduceNeg, Int.reduceNe, Int.reduceGE, Int.reduceGT, Nat.reduceBEq, Int.reduceToNat]
             repeat' (first | with_reducible rfl | (refine And.intro ?_ ?_) | (refine congrArg (Value.int _) ?_; omega) | omega)
             done)
          | (have e : k = gs.length := by omega
             rw [e] at hr0
             have hh := hraw [] (by rw [hr0]) (fun p q _ h => absurd h (Nat.not_lt_zero _))
             refine ⟨_, _, _, ?_, hnil hh.symm⟩
             simp (config := { maxSteps := 2000000 }) only [go_sem, hG, hP, Nat.reduceEqDiff, ↓reduceIte, reduceCtorEq, Nat.reduceAdd, Nat.reduceSub, Nat.reduceMul, Nat.reduceLT, Nat.reduceLeDiff, Int.reduceAdd, Int.reduceSub, Int.reduceMul, Int.reduceLT, Int.reduceLE, Int.reduceEq, Int.reduceNeg, Int.reduceNe, Int.reduceGE, Int.reduceGT, Nat.reduceBEq, Int.reduceToNat]
             done)
          | skip
        skip
        done
      · dsimp only
        have hr0 : raws gs x k ≠ [] := fun e => by have := hbr.2 e; cases this
        simp (config := { maxSteps := 2000000 }) only [go_sem, hG, hP, Nat.reduceEqDiff, ↓reduceIte, reduceCtorEq, Nat.reduceAdd, Nat.reduceSub, Nat.reduceMul, Nat.reduceLT, Nat.reduceLeDiff, Int.reduceAdd, Int.reduceSub, Int.reduceMul, Int.reduceLT, Int.reduceLE, Int.reduceEq, Int.reduceNeg, Int.reduceNe, Int.reduceGE, Int.reduceGT, Nat.reduceBEq, Int.reduceToNat,  gSort0, gSort1, gSortt, gSortk, take1_v, take1_s]
        (try simp (disch := omega) only [wrap_id])
        repeat' (first | (refine And.intro ?_ ?_) | (with_reducible intro _))
        all_goals first
          | omega
          | (unfold appRoom; omega)
          | skip
        all_goals first
          | (have hp : legP x (gs.getD k (⟨0, false⟩ : Lg)) = true := by simp [legP]; grind
             have hs2 := hstep (by omega)
             rw [if_pos hp] at hs2
             refine ⟨(true, k + 1), ⟨⟨by dsimp only; omega, by dsimp only; rw [hs2]; simp⟩, by dsimp only; omega⟩, SubS.weak ?_⟩
             dsimp only
             rw [hs2]
             simp (config := { maxSteps := 2000000 }) only [go_sem, hG, hP, Nat.reduceEqDiff, ↓reduceIte, reduceCtorEq, Nat.reduceAdd, Nat.reduceSub, Nat.reduceMul, Nat.reduceLT, Nat.reduceLeDiff, Int.reduceAdd, Int.reduceSub, Int.reduceMul, Int.reduceLT, Int.reduceLE, Int.reduceEq, Int.reduceNeg, Int.reduceNe, Int.reduceGE, Int.reduceGT, Nat.reduceBEq, Int.reduceToNat]
             repeat' (first | with_reducible rfl | (refine And.intro ?_ ?_) | (refine congrArg (Value.int _) ?_; omega) | omega)
             all_goals (first | (simp; done) | rfl)
             done)
          | (have hp : legP x (gs.getD k (⟨0, false⟩ : Lg)) = false := by simp [legP]; grind
             have hs2 := hstep (by omega)
             rw [if_neg (by rw [hp]; exact Bool.false_ne_true)] at hs2
             refine ⟨(true, k + 1), ⟨⟨by dsimp only; omega, by dsimp only; rw [hs2]; simp [hr0]⟩, by dsimp only; omega⟩, SubS.weak ?_⟩
             dsimp only
             rw [hs2]
             simp (config := { maxSteps := 2000000 }) only [go_sem, hG, hP, Nat.reduceEqDiff, ↓reduceIte, reduceCtorEq, Nat.reduceAdd, Nat.reduceSub, Nat.reduceMul, Nat.reduceLT, Nat.reduceLeDiff, Int.reduceAdd, Int.reduceSub, Int.reduceMul, Int.reduceLT, Int.reduceLE, Int.reduceEq, Int.reduceNeg, Int.reduceNe, Int.reduceGE, Int.reduceGT, Nat.reduceBEq, Int.reduceToNat]
             repeat' (first | with_reducible rfl | (refine And.intro ?_ ?_) | (refine congrArg (Value.int _) ?_; omega) | omega)
             done)
          | (rename_i ys hy
             have e : k = gs.length := by omega
             subst e
             have hh := hraw ys hy.1 hy.2
             subst hh
             have hne : heard l cs x ≠ [] := fun e => hr0 (by have := hy.1.length_eq; rw [e] at this; exact List.eq_nil_of_length_eq_zero this.symm)
             refine ⟨_, _, _, ?_, hsub hne⟩
             rw [hy.1.length_eq]
             simp (config := { maxSteps := 2000000 }) only [go_sem, hG, hP, Nat.reduceEqDiff, ↓reduceIte, reduceCtorEq, Nat.reduceAdd, Nat.reduceSub, Nat.reduceMul, Nat.reduceLT, Nat.reduceLeDiff, Int.reduceAdd, Int.reduceSub, Int.reduceMul, Int.reduceLT, Int.reduceLE, Int.reduceEq, Int.reduceNeg, Int.reduceNe, Int.reduceGE, Int.reduceGT, Nat.reduceBEq, Int.reduceToNat]
             done)
          | skip
        skip
        done
  · exact h.elim

end Go.Proofs.YtnbfnpnephfjaaaE

/-! The code of a function, in the engine's words. -/
namespace Go.Proofs.YtnbfnpnephfjaaaE
open Go Go.RowKit
@[reducible] def ic3 : IC := (.seq (.ops [⟨some 1, .box (.tmp 0), none⟩, ⟨some 2, .mov (.const (.bool false)), none⟩]) (.seq (.ops [⟨some 3, .mov (.const (.int .i64 1048576)), none⟩]) (.seq (.ops [⟨some 7, .load 2 true (.tmp 1), none⟩, ⟨some 8, .mov (.tmp 3), none⟩, ⟨some 9, .call 13 [(.tmp 7), (.tmp 8)], none⟩, ⟨some 3, .mov (.tmp 9), none⟩]) (.seq (.seq (.ops [⟨some 10, .mov (.tmp 3), none⟩, ⟨some 11, .bin .lss (.tmp 10) (.const (.int .i64 0)), none⟩]) (.cond (.tmp 11) (.seq (.ops [⟨some 2, .mov (.const (.bool true)), none⟩]) .ret) .skip)) (.seq (.ops [⟨some 12, .load 2 true (.tmp 1), none⟩, ⟨some 13, .call 15 [(.tmp 12)], none⟩, ⟨some 14, .call 14 [(.tmp 13)], none⟩, ⟨some 4, .mov (.tmp 14), none⟩]) (.seq (.ops [⟨some 15, .load 2 true (.tmp 1), none⟩, ⟨some 16, .call 15 [(.tmp 15)], none⟩, ⟨some 5, .new [(.int .i64 0), (.slice none 0 0)], none⟩, ⟨none, .store 2 (.tmp 5) (.tmp 16), none⟩]) (.seq (.ops [⟨some 17, .load 2 true (.tmp 5), none⟩, ⟨some 18, .call 16 [(.tmp 17)], none⟩, ⟨some 6, .mov (.tmp 18), none⟩]) (.seq (.seq (.ops [⟨some 19, .mov (.tmp 6), none⟩, ⟨some 20, .mov (.tmp 4), none⟩, ⟨some 21, .beq true (.tmp 19) (.tmp 20), none⟩]) (.cond (.tmp 21) (.seq (.ops [⟨some 2, .mov (.const (.bool false)), none⟩]) .ret) .skip)) (.seq (.seq (.draw [⟨some 22, .load 2 true (.tmp 5), none⟩, ⟨some 23, .load 2 true (.tmp 1), none⟩, ⟨some 24, .call 15 [(.tmp 23)], none⟩, ⟨some 25, .call 17 [(.tmp 22), (.tmp 24)], none⟩, ⟨some 26, .una .not (.tmp 25), none⟩] (.held ⟨some 22, .load 2 true (.tmp 5), none⟩ (.held ⟨some 23, .load 2 true (.tmp 1), none⟩ (.alt ⟨some 24, .call 15 [(.tmp 23)], none⟩ (.alt ⟨some 25, .call 17 [(.tmp 22), (.tmp 24)], none⟩ (.held ⟨some 26, .una .not (.tmp 25), none⟩ .done) .stop) .stop)))) (.cond (.tmp 26) (.seq (.ops [⟨some 2, .mov (.const (.bool false)), none⟩]) .ret) .skip)) (.seq (.ops [⟨some 2, .mov (.const (.bool true)), none⟩]) .ret))))))))))
@[reducible] def rv3 : List RV := [.tmp 2]
theorem low3 : lowC Try.prog tau Try.f3.ntmps (Try.f3.body.getD .skip) = some (erase ic3) := by kernel_rfl
theorem res3 : lowR Try.prog Try.f3.results.toList = some rv3 := by kernel_rfl
theorem bod3 : Try.f3.body = some (Try.f3.body.getD .skip) := by kernel_rfl
theorem cal3 : callable Try.prog 3 = true := by kernel_rfl

end Go.Proofs.YtnbfnpnephfjaaaE

/-! The code of a function, in the engine's words. -/
namespace Go.Proofs.YtnbfnpnephfjaaaE
open Go Go.RowKit
@[reducible] def ic4 : IC := (.seq (.ops [⟨some 3, .box (.tmp 0), none⟩, ⟨some 6, .mov (.const (.bool false)), none⟩]) (.seq (.ops [⟨some 7, .mov (.const (.int .i64 1048576)), none⟩]) (.seq (.ops [⟨some 11, .load 2 true (.tmp 3), none⟩, ⟨some 12, .mov (.tmp 7), none⟩, ⟨some 13, .call 13 [(.tmp 11), (.tmp 12)], none⟩, ⟨some 7, .mov (.tmp 13), none⟩]) (.seq (.seq (.ops [⟨some 14, .mov (.tmp 7), none⟩, ⟨some 15, .bin .lss (.tmp 14) (.const (.int .i64 0)), none⟩]) (.cond (.tmp 15) (.seq (.ops [⟨some 6, .mov (.const (.bool true)), none⟩]) .ret) .skip)) (.seq (.ops [⟨some 16, .load 2 true (.tmp 3), none⟩, ⟨some 17, .call 15 [(.tmp 16)], none⟩, ⟨some 18, .mov (.tmp 1), none⟩, ⟨some 19, .mov (.tmp 2), none⟩, ⟨some 20, .call 18 [(.tmp 17), (.tmp 18), (.tmp 19)], none⟩, ⟨some 8, .mov (.tmp 20), none⟩]) (.seq (.ops [⟨some 21, .load 2 true (.tmp 3), none⟩, ⟨some 22, .call 15 [(.tmp 21)], none⟩, ⟨some 9, .new [(.int .i64 0), (.slice none 0 0)], none⟩, ⟨none, .store 2 (.tmp 9) (.tmp 22), none⟩]) (.seq (.ops [⟨some 23, .load 2 true (.tmp 9), none⟩, ⟨some 24, .mov (.tmp 1), none⟩, ⟨some 25, .mov (.tmp 2), none⟩, ⟨some 26, .call 19 [(.tmp 23), (.tmp 24), (.tmp 25)], none⟩, ⟨some 10, .mov (.tmp 26), none⟩]) (.seq (.seq (.ops [⟨some 27, .mov (.tmp 10), none⟩, ⟨some 28, .mov (.tmp 8), none⟩, ⟨some 29, .beq true (.tmp 27) (.tmp 28), none⟩]) (.cond (.tmp 29) (.seq (.ops [⟨some 6, .mov (.const (.bool false)), none⟩]) .ret) .skip)) (.seq (.seq (.draw [⟨some 30, .load 2 true (.tmp 9), none⟩, ⟨some 31, .load 2 true (.tmp 3), none⟩, ⟨some 32, .call 15 [(.tmp 31)], none⟩, ⟨some 33, .call 17 [(.tmp 30), (.tmp 32)], none⟩, ⟨some 34, .una .not (.tmp 33), none⟩] (.held ⟨some 30, .load 2 true (.tmp 9), none⟩ (.held ⟨some 31, .load 2 true (.tmp 3), none⟩ (.alt ⟨some 32, .call 15 [(.tmp 31)], none⟩ (.alt ⟨some 33, .call 17 [(.tmp 30), (.tmp 32)], none⟩ (.held ⟨some 34, .una .not (.tmp 33), none⟩ .done) .stop) .stop)))) (.cond (.tmp 34) (.seq (.ops [⟨some 6, .mov (.const (.bool false)), none⟩]) .ret) .skip)) (.seq (.ops [⟨some 6, .mov (.const (.bool true)), none⟩]) .ret))))))))))
@[reducible] def rv4 : List RV := [.tmp 6]
theorem low4 : lowC Try.prog tau Try.f4.ntmps (Try.f4.body.getD .skip) = some (erase ic4) := by kernel_rfl
theorem res4 : lowR Try.prog Try.f4.results.toList = some rv4 := by kernel_rfl
theorem bod4 : Try.f4.body = some (Try.f4.body.getD .skip) := by kernel_rfl
theorem cal4 : callable Try.prog 4 = true := by kernel_rfl

end Go.Proofs.YtnbfnpnephfjaaaE

/-! The laws of PanelOk and OneCall. -/
namespace Go.Proofs.YtnbfnpnephfjaaaE
open Go Go.RowKit
set_option linter.unusedSimpArgs false
set_option linter.unusedVariables false
set_option maxRecDepth 20000
set_option maxHeartbeats 4000000
theorem bb_self {b : Bool} : (b == b) = true := by simp
theorem szStep_len {a : Nat} {n : Int} (h : ¬ szStep a n < 0) : (a : Int) ≤ n ∧ szStep a n = n - a := by
  unfold szStep at h ⊢
  split at h <;> rename_i h2
  · omega
  · rw [if_neg h2]; omega
theorem szCs_len : ∀ {cs : List Cal} {n : Int}, ¬ szCs cs n < 0 → ∀ c ∈ cs, (c.legs.length : Int) ≤ n
  | [], _, _, _, h => by cases h
  | c :: r, n, h, x, hx => by
    unfold szCs at h
    split at h
    · omega
    · rename_i h2
      obtain ⟨a1, a2⟩ := szStep_len h2
      rcases List.mem_cons.1 hx with rfl | hx
      · exact a1
      · have := szCs_len h x hx
        omega
/-- What is not too big is small. -/
theorem small_of {cs : List Cal} {n : Int} (hn : n ≤ 1099511627776) (h : ¬ szCallsI cs n < 0) : cs.length ≤ 1099511627776 ∧ legsOk2 cs := by
  unfold szCallsI at h
  split at h
  · omega
  · rename_i h2
    obtain ⟨a1, a2⟩ := szStep_len h2
    refine ⟨by omega, fun c hc => ?_⟩
    have := szCs_len h c hc
    omega
def spLaw3 : Spec := ⟨fun _ _ => [], fun args objs K => match args, objs with
  | [.agg [.v (.int .i64 l), .rs .call cs]], [] => (cs.length ≤ 17592186044416 ∧ legsOk cs) ∧ K (.v (.bool true)) [] 0
  | _, _ => False, false⟩
theorem spLaw3_t {L : Hp} {a : List AVal} : Spec.take spLaw3 L a = [] := id rfl
theorem spLaw3_k : Spec.keep spLaw3 = false := id rfl
theorem spLaw3_f {l} {cs} {K : AVal → Hp → Nat → Prop} : Spec.f spLaw3 ([.agg [.v (.int .i64 l), .rs .call cs]]) ([]) K = ((cs.length ≤ 17592186044416 ∧ legsOk cs) ∧ K (.v (.bool true)) [] 0) := id rfl
theorem valid3 : Valid Try.prog 3 spLaw3 := by
  refine validI (Γ := lk [(13, spSzPanel), (15, spToPanel), (14, spPanelOk), (16, spPanelOk), (17, spEqPanel)]) Try.func3 bod3 low3 res3 (good_of ⟨⟨cal13, valid13⟩, ⟨cal15, valid15⟩, ⟨cal14, valid14⟩, ⟨cal16, valid16⟩, ⟨cal17, valid17⟩, trivial⟩) ?_
  intro E args objs K h hE hG hP
  simp only [spLaw3] at h
  split at h
  · refine ⟨by simp [Try.ntmps3], ?_⟩
    rename_i l cs
    obtain ⟨⟨b1, b2⟩, h⟩ := h
    simp (config := { maxSteps := 2000000 }) only [go_sem, hG, hP, Nat.reduceEqDiff, ↓reduceIte, reduceCtorEq, Nat.reduceAdd, Nat.reduceSub, Nat.reduceMul, Nat.reduceLT, Nat.reduceLeDiff, Int.reduceAdd, Int.reduceSub, Int.reduceMul, Int.reduceLT, Int.reduceLE, Int.reduceEq, Int.reduceNeg, Int.reduceNe, Int.reduceGE, Int.reduceGT, Nat.reduceBEq, Int.reduceToNat,  spSzPanel_f, spSzPanel_t, spSzPanel_k, spToPanel_f, spToPanel_t, spToPanel_k, spPanelOk_f, spPanelOk_t, spPanelOk_k, spEqPanel_f, spEqPanel_t, spEqPanel_k, bb_self]
    refine ⟨⟨b1, b2⟩, fun hs => ⟨_, _, _, ?_, h⟩, fun hs => ?_⟩
    · simp (config := { maxSteps := 2000000 }) only [go_sem, hG, hP, Nat.reduceEqDiff, ↓reduceIte, reduceCtorEq, Nat.reduceAdd, Nat.reduceSub, Nat.reduceMul, Nat.reduceLT, Nat.reduceLeDiff, Int.reduceAdd, Int.reduceSub, Int.reduceMul, Int.reduceLT, Int.reduceLE, Int.reduceEq, Int.reduceNeg, Int.reduceNe, Int.reduceGE, Int.reduceGT, Nat.reduceBEq, Int.reduceToNat]
    obtain ⟨c1, c2⟩ := small_of (by omega) hs
    refine ⟨⟨c1, c2⟩, fun xs es hn => ?_⟩
    simp only [hn.tk]
    refine ⟨⟨hn.le, hn.refs⟩, ⟨c1, c2⟩, ⟨c1, c2⟩, fun xs1 es1 hn1 => ?_⟩
    simp only [hn1.tk]
    refine ⟨⟨hn1.le, hn1.refs⟩, ⟨c1, c2⟩, fun e => ?_, fun e => ?_⟩
    · simp at e
    refine ⟨⟨c1, c2⟩, fun xs2 es2 hn2 => ?_⟩
    simp only [hn2.tk]
    refine ⟨⟨⟨hn1.le, hn1.refs⟩, hn2.le, hn2.refs⟩, ⟨c1, c1, c2, c2⟩, fun e => absurd trivial e, fun e => ⟨_, _, _, ?_, h⟩⟩
    simp (config := { maxSteps := 2000000 }) only [go_sem, hG, hP, Nat.reduceEqDiff, ↓reduceIte, reduceCtorEq, Nat.reduceAdd, Nat.reduceSub, Nat.reduceMul, Nat.reduceLT, Nat.reduceLeDiff, Int.reduceAdd, Int.reduceSub, Int.reduceMul, Int.reduceLT, Int.reduceLE, Int.reduceEq, Int.reduceNeg, Int.reduceNe, Int.reduceGE, Int.reduceGT, Nat.reduceBEq, Int.reduceToNat]
  · exact h.elim
def spLaw4 : Spec := ⟨fun _ _ => [], fun args objs K => match args, objs with
  | [.agg [.v (.int .i64 l), .rs .call cs], .v (.int .i64 a), .v (.int .i64 b)], [] => (cs.length ≤ 17592186044416 ∧ legsOk cs) ∧ K (.v (.bool true)) [] 0
  | _, _ => False, false⟩
theorem spLaw4_t {L : Hp} {a : List AVal} : Spec.take spLaw4 L a = [] := id rfl
theorem spLaw4_k : Spec.keep spLaw4 = false := id rfl
theorem spLaw4_f {l} {cs} {a} {b} {K : AVal → Hp → Nat → Prop} : Spec.f spLaw4 ([.agg [.v (.int .i64 l), .rs .call cs], .v (.int .i64 a), .v (.int .i64 b)]) ([]) K = ((cs.length ≤ 17592186044416 ∧ legsOk cs) ∧ K (.v (.bool true)) [] 0) := id rfl
theorem valid4 : Valid Try.prog 4 spLaw4 := by
  refine validI (Γ := lk [(13, spSzPanel), (15, spToPanel), (18, spOneCall), (19, spOneCall), (17, spEqPanel)]) Try.func4 bod4 low4 res4 (good_of ⟨⟨cal13, valid13⟩, ⟨cal15, valid15⟩, ⟨cal18, valid18⟩, ⟨cal19, valid19⟩, ⟨cal17, valid17⟩, trivial⟩) ?_
  intro E args objs K h hE hG hP
  simp only [spLaw4] at h
  split at h
  · refine ⟨by simp [Try.ntmps4], ?_⟩
    rename_i l cs a b
    obtain ⟨⟨b1, b2⟩, h⟩ := h
    simp (config := { maxSteps := 2000000 }) only [go_sem, hG, hP, Nat.reduceEqDiff, ↓reduceIte, reduceCtorEq, Nat.reduceAdd, Nat.reduceSub, Nat.reduceMul, Nat.reduceLT, Nat.reduceLeDiff, Int.reduceAdd, Int.reduceSub, Int.reduceMul, Int.reduceLT, Int.reduceLE, Int.reduceEq, Int.reduceNeg, Int.reduceNe, Int.reduceGE, Int.reduceGT, Nat.reduceBEq, Int.reduceToNat,  spSzPanel_f, spSzPanel_t, spSzPanel_k, spToPanel_f, spToPanel_t, spToPanel_k, spOneCall_f, spOneCall_t, spOneCall_k, spEqPanel_f, spEqPanel_t, spEqPanel_k, bb_self]
    refine ⟨⟨b1, b2⟩, fun hs => ⟨_, _, _, ?_, h⟩, fun hs => ?_⟩
    · simp (config := { maxSteps := 2000000 }) only [go_sem, hG, hP, Nat.reduceEqDiff, ↓reduceIte, reduceCtorEq, Nat.reduceAdd, Nat.reduceSub, Nat.reduceMul, Nat.reduceLT, Nat.reduceLeDiff, Int.reduceAdd, Int.reduceSub, Int.reduceMul, Int.reduceLT, Int.reduceLE, Int.reduceEq, Int.reduceNeg, Int.reduceNe, Int.reduceGE, Int.reduceGT, Nat.reduceBEq, Int.reduceToNat]
    obtain ⟨c1, c2⟩ := small_of (by omega) hs
    refine ⟨⟨c1, c2⟩, fun xs es hn => ?_⟩
    simp only [hn.tk]
    refine ⟨⟨hn.le, hn.refs⟩, ⟨c1, c2⟩, ⟨c1, c2⟩, fun xs1 es1 hn1 => ?_⟩
    simp only [hn1.tk]
    refine ⟨⟨hn1.le, hn1.refs⟩, ⟨c1, c2⟩, fun e => ?_, fun e => ?_⟩
    · simp at e
    refine ⟨⟨c1, c2⟩, fun xs2 es2 hn2 => ?_⟩
    simp only [hn2.tk]
    refine ⟨⟨⟨hn1.le, hn1.refs⟩, hn2.le, hn2.refs⟩, ⟨c1, c1, c2, c2⟩, fun e => absurd trivial e, fun e => ⟨_, _, _, ?_, h⟩⟩
    simp (config := { maxSteps := 2000000 }) only [go_sem, hG, hP, Nat.reduceEqDiff, ↓reduceIte, reduceCtorEq, Nat.reduceAdd, Nat.reduceSub, Nat.reduceMul, Nat.reduceLT, Nat.reduceLeDiff, Int.reduceAdd, Int.reduceSub, Int.reduceMul, Int.reduceLT, Int.reduceLE, Int.reduceEq, Int.reduceNeg, Int.reduceNe, Int.reduceGE, Int.reduceGT, Nat.reduceBEq, Int.reduceToNat]
  · exact h.elim
end Go.Proofs.YtnbfnpnephfjaaaE

/-! The code of a function, in the engine's words. -/
namespace Go.Proofs.YtnbfnpnephfjaaaE
open Go Go.RowKit
@[reducible] def ic9 : IC := (.seq (.ops [⟨some 2, .box (.tmp 0), none⟩, ⟨some 4, .mov (.const (.bool false)), none⟩]) (.seq (.ops [⟨some 5, .mov (.const (.int .i64 1048576)), none⟩]) (.seq (.ops [⟨some 13, .load 2 true (.tmp 2), none⟩, ⟨some 14, .mov (.tmp 5), none⟩, ⟨some 15, .call 13 [(.tmp 13), (.tmp 14)], none⟩, ⟨some 5, .mov (.tmp 15), none⟩]) (.seq (.seq (.ops [⟨some 16, .mov (.tmp 5), none⟩, ⟨some 17, .bin .lss (.tmp 16) (.const (.int .i64 0)), none⟩]) (.cond (.tmp 17) (.seq (.ops [⟨some 4, .mov (.const (.bool true)), none⟩]) .ret) .skip)) (.seq (.ops [⟨some 18, .load 2 true (.tmp 2), none⟩, ⟨some 19, .call 15 [(.tmp 18)], none⟩, ⟨some 20, .mov (.tmp 1), none⟩, ⟨some 21, .call 39 [(.tmp 19), (.tmp 20)], none⟩, ⟨some 6, .mov (.tmp 21), none⟩]) (.seq (.ops [⟨some 22, .load 2 true (.tmp 2), none⟩, ⟨some 23, .call 15 [(.tmp 22)], none⟩, ⟨some 7, .new [(.int .i64 0), (.slice none 0 0)], none⟩, ⟨none, .store 2 (.tmp 7) (.tmp 23), none⟩]) (.seq (.ops [⟨some 24, .load 2 true (.tmp 7), none⟩, ⟨some 25, .mov (.tmp 1), none⟩, ⟨some 26, .call 40 [(.tmp 24), (.tmp 25)], none⟩, ⟨some 8, .mov (.tmp 26), none⟩]) (.seq (.seq (.ops [⟨some 27, .mov (.tmp 8), none⟩, ⟨some 28, .mov (.tmp 6), none⟩, ⟨some 29, .call 34 [(.tmp 27), (.tmp 28)], none⟩, ⟨some 30, .una .not (.tmp 29), none⟩]) (.cond (.tmp 30) (.seq (.ops [⟨some 4, .mov (.const (.bool false)), none⟩]) .ret) .skip)) (.seq (.seq (.draw [⟨some 31, .load 2 true (.tmp 7), none⟩, ⟨some 32, .load 2 true (.tmp 2), none⟩, ⟨some 33, .call 15 [(.tmp 32)], none⟩, ⟨some 34, .call 17 [(.tmp 31), (.tmp 33)], none⟩, ⟨some 35, .una .not (.tmp 34), none⟩] (.held ⟨some 31, .load 2 true (.tmp 7), none⟩ (.held ⟨some 32, .load 2 true (.tmp 2), none⟩ (.alt ⟨some 33, .call 15 [(.tmp 32)], none⟩ (.alt ⟨some 34, .call 17 [(.tmp 31), (.tmp 33)], none⟩ (.held ⟨some 35, .una .not (.tmp 34), none⟩ .done) .stop) .stop)))) (.cond (.tmp 35) (.seq (.ops [⟨some 4, .mov (.const (.bool false)), none⟩]) .ret) .skip)) (.seq (.ops [⟨some 9, .mov (.const (.int .i64 1)), none⟩]) (.seq (.ops [⟨some 36, .load 2 true (.tmp 7), none⟩, ⟨some 37, .mov (.tmp 9), none⟩, ⟨some 38, .call 26 [(.tmp 36), (.tmp 37)], none⟩, ⟨some 9, .mov (.tmp 38), none⟩]) (.seq (.seq (.ops [⟨some 39, .mov (.tmp 9), none⟩, ⟨some 40, .bin .lss (.tmp 39) (.const (.int .i64 0)), none⟩, ⟨some 41, .mov (.tmp 40), none⟩, ⟨some 42, .mov (.tmp 8), some (41, false)⟩, ⟨some 43, .mov (.tmp 6), some (41, false)⟩, ⟨some 44, .call 34 [(.tmp 42), (.tmp 43)], some (41, false)⟩, ⟨some 45, .una .not (.tmp 44), some (41, false)⟩, ⟨some 46, .pick (.tmp 41) (.const (.bool true)) (.tmp 45), none⟩]) (.cond (.tmp 46) (.seq (.ops [⟨some 4, .mov (.const (.bool false)), none⟩]) .ret) .skip)) (.seq (.ops [⟨some 10, .mov (.const (.int .i64 1)), none⟩]) (.seq (.ops [⟨some 47, .mov (.tmp 8), none⟩, ⟨some 48, .mov (.tmp 10), none⟩, ⟨some 49, .call 37 [(.tmp 47), (.tmp 48)], none⟩, ⟨some 10, .mov (.tmp 49), none⟩]) (.seq (.ops [⟨some 11, .mov (.const (.int .i64 1)), none⟩]) (.seq (.ops [⟨some 50, .mov (.tmp 8), none⟩, ⟨some 51, .mov (.tmp 11), none⟩, ⟨some 52, .call 38 [(.tmp 50), (.tmp 51)], none⟩, ⟨some 11, .mov (.tmp 52), none⟩]) (.seq (.seq (.ops [⟨some 53, .mov (.tmp 11), none⟩, ⟨some 54, .bin .lss (.tmp 53) (.const (.int .i64 0)), none⟩]) (.cond (.tmp 54) (.seq (.ops [⟨some 4, .mov (.const (.bool false)), none⟩]) .ret) .skip)) (.seq (.seq (.ops [⟨some 55, .mov (.tmp 11), none⟩, ⟨some 56, .mov (.tmp 10), none⟩, ⟨some 57, .bin .neq (.tmp 55) (.tmp 56), none⟩]) (.cond (.tmp 57) (.seq (.ops [⟨some 4, .mov (.const (.bool false)), none⟩]) .ret) .skip)) (.seq (.ops [⟨some 58, .load 2 true (.tmp 2), none⟩, ⟨some 59, .call 15 [(.tmp 58)], none⟩, ⟨some 60, .mov (.tmp 1), none⟩, ⟨some 61, .call 40 [(.tmp 59), (.tmp 60)], none⟩, ⟨some 12, .mov (.tmp 61), none⟩]) (.seq (.seq (.ops [⟨some 62, .mov (.tmp 12), none⟩, ⟨some 63, .mov (.tmp 6), none⟩, ⟨some 64, .call 34 [(.tmp 62), (.tmp 63)], none⟩, ⟨some 65, .una .not (.tmp 64), none⟩]) (.cond (.tmp 65) (.seq (.ops [⟨some 4, .mov (.const (.bool false)), none⟩]) .ret) .skip)) (.seq (.ops [⟨some 11, .mov (.const (.int .i64 1)), none⟩]) (.seq (.ops [⟨some 66, .mov (.tmp 8), none⟩, ⟨some 67, .mov (.tmp 11), none⟩, ⟨some 68, .call 38 [(.tmp 66), (.tmp 67)], none⟩, ⟨some 11, .mov (.tmp 68), none⟩]) (.seq (.seq (.ops [⟨some 69, .mov (.tmp 11), none⟩, ⟨some 70, .bin .lss (.tmp 69) (.const (.int .i64 0)), none⟩]) (.cond (.tmp 70) (.seq (.ops [⟨some 4, .mov (.const (.bool false)), none⟩]) .ret) .skip)) (.seq (.seq (.ops [⟨some 71, .mov (.tmp 11), none⟩, ⟨some 72, .mov (.tmp 10), none⟩, ⟨some 73, .bin .neq (.tmp 71) (.tmp 72), none⟩]) (.cond (.tmp 73) (.seq (.ops [⟨some 4, .mov (.const (.bool false)), none⟩]) .ret) .skip)) (.seq (.ops [⟨some 4, .mov (.const (.bool true)), none⟩]) .ret)))))))))))))))))))))))))
@[reducible] def rv9 : List RV := [.tmp 4]
theorem low9 : lowC Try.prog tau Try.f9.ntmps (Try.f9.body.getD .skip) = some (erase ic9) := by kernel_rfl
theorem res9 : lowR Try.prog Try.f9.results.toList = some rv9 := by kernel_rfl
theorem bod9 : Try.f9.body = some (Try.f9.body.getD .skip) := by kernel_rfl
theorem cal9 : callable Try.prog 9 = true := by kernel_rfl

end Go.Proofs.YtnbfnpnephfjaaaE

/-! The law of Heard. -/
namespace Go.Proofs.YtnbfnpnephfjaaaE
open Go Go.RowKit
set_option linter.unusedSimpArgs false
set_option linter.unusedVariables false
set_option maxRecDepth 20000
set_option maxHeartbeats 8000000
theorem den_nil {W : World} {C : CR} {ρ : Nm} {t : Ty} {v : Value} (h : Den W C ρ (.v (.slice none 0 0)) v) : Den W C ρ (.rs t []) v := by
  rw [den_v h]
  exact .rs (t := t) (xs := []) (A := none) (c := 0) (fun _ => undef) (.inl (by simp)) (Nat.le_refl _) (fun i f x av h => by simp at h)
/-- What reads as a row reads so, nil too. -/
theorem rows_den {W : World} {C : CR} {ρ : Nm} {t : Ty} {a : AVal} {v : Value} {K : List t.D → Prop} (hd : Den W C ρ a v) (h : rowsK t [] a K) : ∃ xs, Den W C ρ (.rs t xs) v ∧ K xs := by
  unfold rowsK at h
  split at h
  · obtain rfl := castK_eq h
    exact ⟨_, hd, castK_same h⟩
  · simp [lk] at h
  · simp [lk] at h
  · exact ⟨[], den_nil hd, h⟩
  · exact h.elim
def spEqIntU : Spec := ⟨fun _ _ => [], fun args objs K => match args, objs with
  | [a, b], [] => rowsK .int [] a fun xs => rowsK .int [] b fun ys => (xs.length ≤ 1099511627776 ∧ ys.length ≤ 1099511627776) ∧ K (.v (.bool (decide (xs = ys)))) [] 0
  | _, _ => False, false⟩
theorem spEqIntU_t {L : Hp} {a : List AVal} : Spec.take spEqIntU L a = [] := id rfl
theorem spEqIntU_k : Spec.keep spEqIntU = false := id rfl
theorem spEqIntU_f {a} {b} {K : AVal → Hp → Nat → Prop} : Spec.f spEqIntU ([a, b]) ([]) K = (rowsK .int [] a fun xs => rowsK .int [] b fun ys => (xs.length ≤ 1099511627776 ∧ ys.length ≤ 1099511627776) ∧ K (.v (.bool (decide (xs = ys)))) [] 0) := id rfl
theorem valid34U : Valid Try.prog 34 spEqIntU := by
  intro W C ρ args vals objs K hd hp h
  simp only [spEqIntU] at h
  split at h
  · obtain ⟨v0, r0, rfl, d0, e0⟩ := hd.cons_inv
    obtain ⟨v1, r1, rfl, d1, e1⟩ := e0.cons_inv
    obtain ⟨xs, d2, h⟩ := rows_den d0 h
    obtain ⟨ys, d3, h⟩ := rows_den d1 h
    exact valid34 W C ρ _ _ _ K (DenL.cons d2 (DenL.cons d3 e1)) hp h
  · exact h.elim
def spHeldIntU : Spec := ⟨fun _ _ => [], fun args objs K => match args, objs with
  | [a, .v (.int .i64 k)], [] => rowsK .int [] a fun xs => (xs.length ≤ 1099511627776 ∧ 0 ≤ k ∧ k ≤ 1099511627776) ∧ K (.v (.int .i64 (heldI xs k))) [] 0
  | _, _ => False, false⟩
theorem spHeldIntU_t {L : Hp} {a : List AVal} : Spec.take spHeldIntU L a = [] := id rfl
theorem spHeldIntU_k : Spec.keep spHeldIntU = false := id rfl
theorem spHeldIntU_f {a} {k} {K : AVal → Hp → Nat → Prop} : Spec.f spHeldIntU ([a, .v (.int .i64 k)]) ([]) K = (rowsK .int [] a fun xs => (xs.length ≤ 1099511627776 ∧ 0 ≤ k ∧ k ≤ 1099511627776) ∧ K (.v (.int .i64 (heldI xs k))) [] 0) := id rfl
theorem valid38U : Valid Try.prog 38 spHeldIntU := by
  intro W C ρ args vals objs K hd hp h
  simp only [spHeldIntU] at h
  split at h
  · obtain ⟨v0, r0, rfl, d0, e0⟩ := hd.cons_inv
    obtain ⟨xs, d2, h⟩ := rows_den d0 h
    exact valid38 W C ρ _ _ _ K (DenL.cons d2 e0) hp h
  · exact h.elim
def spMarkIntU : Spec := ⟨fun _ => take1, fun args objs K => match args, objs with
  | [.v (.slice none 0 0), .v (.int .i64 k)], [] => K (.v (.int .i64 k)) [] 0
  | [.sub 0 1 0 n, .v (.int .i64 k)], [.row .int xs] => (n = xs.length ∧ xs.length ≤ 1099511627776 ∧ 0 ≤ k ∧ k ≤ 1099511627776) ∧ K (.v (.int .i64 (k + xs.length))) [(0, .row .int (intMarks k xs.length))] 1
  | _, _ => False, false⟩
theorem gMarkU0 {k : Int} {K : AVal → Hp → Nat → Prop} : Spec.f spMarkIntU [.v (.slice none 0 0), .v (.int .i64 k)] [] K = K (.v (.int .i64 k)) [] 0 := id rfl
theorem gMarkU1 {k : Int} {n : Nat} {xs : List Int} {K : AVal → Hp → Nat → Prop} : Spec.f spMarkIntU [.sub 0 1 0 n, .v (.int .i64 k)] [.row .int xs] K = ((n = xs.length ∧ xs.length ≤ 1099511627776 ∧ 0 ≤ k ∧ k ≤ 1099511627776) ∧ K (.v (.int .i64 (k + xs.length))) [(0, .row .int (intMarks k xs.length))] 1) := id rfl
theorem gMarkUt {L : Hp} {a : List AVal} : Spec.take spMarkIntU L a = take1 a := id rfl
theorem gMarkUk : Spec.keep spMarkIntU = false := id rfl
theorem valid37U : Valid Try.prog 37 spMarkIntU := by
  intro W C ρ args vals objs K hd hp h
  by_cases hn : ∃ k, args = [.v (.slice none 0 0), .v (.int .i64 k)]
  · obtain ⟨k, rfl⟩ := hn
    refine (validI (sp := ⟨fun _ _ => [], fun args objs K => match args, objs with | [.v (.slice none 0 0), .v (.int .i64 k)], [] => K (.v (.int .i64 k)) [] 0 | _, _ => False, false⟩) (Γ := lk []) Try.func37 bod37 low37 res37 (good_of trivial) ?_) W C ρ _ _ _ K hd hp ?_
    · intro E args objs K h hE hG hP
      dsimp only at h
      split at h
      · refine ⟨by simp [Try.ntmps37], ?_⟩
        rename_i k
        simp (config := { maxSteps := 2000000 }) only [go_sem, hG, hP, Nat.reduceEqDiff, ↓reduceIte, reduceCtorEq, Nat.reduceAdd, Nat.reduceSub, Nat.reduceMul, Nat.reduceLT, Nat.reduceLeDiff, Int.reduceAdd, Int.reduceSub, Int.reduceMul, Int.reduceLT, Int.reduceLE, Int.reduceEq, Int.reduceNeg, Int.reduceNe, Int.reduceGE, Int.reduceGT, Nat.reduceBEq, Int.reduceToNat]
        refine loopI hE (fun j : Nat => ⟨[(0, .v (.slice none 0 0)), (1, .v (.int .i64 k)), (5, .v (.int .i64 0))], [], 0, Try.f37.ntmps⟩) (fun j => j = 0) (fun j => 0) ⟨0, rfl, SubS.weak ?_⟩ ?_
        · simp (config := { maxSteps := 2000000 }) only [go_sem, hG, hP, Nat.reduceEqDiff, ↓reduceIte, reduceCtorEq, Nat.reduceAdd, Nat.reduceSub, Nat.reduceMul, Nat.reduceLT, Nat.reduceLeDiff, Int.reduceAdd, Int.reduceSub, Int.reduceMul, Int.reduceLT, Int.reduceLE, Int.reduceEq, Int.reduceNeg, Int.reduceNe, Int.reduceGE, Int.reduceGT, Nat.reduceBEq, Int.reduceToNat]
          repeat' (first | with_reducible rfl | (refine And.intro ?_ ?_) | (refine congrArg (Value.int _) ?_; omega) | omega)
        · rintro j rfl
          simp (config := { maxSteps := 2000000 }) only [go_sem, hG, hP, Nat.reduceEqDiff, ↓reduceIte, reduceCtorEq, Nat.reduceAdd, Nat.reduceSub, Nat.reduceMul, Nat.reduceLT, Nat.reduceLeDiff, Int.reduceAdd, Int.reduceSub, Int.reduceMul, Int.reduceLT, Int.reduceLE, Int.reduceEq, Int.reduceNeg, Int.reduceNe, Int.reduceGE, Int.reduceGT, Nat.reduceBEq, Int.reduceToNat]
          exact ⟨_, _, _, by simp (config := { maxSteps := 2000000 }) only [go_sem, hG, hP, Nat.reduceEqDiff, ↓reduceIte, reduceCtorEq, Nat.reduceAdd, Nat.reduceSub, Nat.reduceMul, Nat.reduceLT, Nat.reduceLeDiff, Int.reduceAdd, Int.reduceSub, Int.reduceMul, Int.reduceLT, Int.reduceLE, Int.reduceEq, Int.reduceNeg, Int.reduceNe, Int.reduceGE, Int.reduceGT, Nat.reduceBEq, Int.reduceToNat], h⟩
      · exact h.elim
    · simp only [spMarkIntU] at h
      cases objs with
      | nil => exact h
      | cons a b => exact h.elim
  · refine valid37 W C ρ _ _ _ K hd hp ?_
    simp only [spMarkIntU] at h
    split at h
    · exact absurd ⟨_, rfl⟩ hn
    · exact h
    · exact h.elim
theorem mkN_szCs : ∀ {cs : List Cal} {n k : Int}, ¬ szCs cs n < 0 → mkN cs k ≤ k + cs.length + 2 * n
  | [], n, k, h => by simp [szCs, mkN] at h ⊢; omega
  | c :: r, n, k, h => by
    unfold szCs at h
    split at h
    · omega
    · rename_i h2
      obtain ⟨a1, a2⟩ := szStep_len h2
      have := mkN_szCs (k := k + 1 + 2 * (c.legs.length : Int)) h
      unfold mkN
      simp only [List.length_cons]
      omega
theorem mkN_small {cs : List Cal} (h : ¬ szCallsI cs 1048576 < 0) : mkN cs 1 ≤ 1099511627776 ∧ cs.length ≤ 1048576 := by
  unfold szCallsI at h
  split at h
  · omega
  · rename_i h2
    obtain ⟨a1, a2⟩ := szStep_len h2
    have := mkN_szCs (k := 1) h
    omega
theorem heard_len {l : Int} {cs : List Cal} {x : Int} : (heard l cs x).length ≤ l.toNat := by
  unfold heard
  split
  · exact hears_len _ _ _
  · simp
theorem heard_small {l : Int} {cs : List Cal} {x : Int} : (heard l cs x).length ≤ 40 := by
  by_cases hc : canHear l cs x = true
  · have := heard_len (l := l) (cs := cs) (x := x)
    simp only [canHear, Bool.and_eq_true] at hc
    have := (panelOk_iff.1 hc.1).1
    omega
  · unfold heard; rw [if_neg hc]; simp
theorem held_im {n : Nat} : heldI (intMarks 1 n) 1 = 1 + n := by unfold heldI; rw [intMarks_len, if_pos rfl]
def spLaw9 : Spec := ⟨fun _ _ => [], fun args objs K => match args, objs with
  | [.agg [.v (.int .i64 l), .rs .call cs], .v (.int .i64 x)], [] => (cs.length ≤ 17592186044416 ∧ legsOk cs) ∧ K (.v (.bool true)) [] 0
  | _, _ => False, false⟩
theorem spLaw9_t {L : Hp} {a : List AVal} : Spec.take spLaw9 L a = [] := id rfl
theorem spLaw9_k : Spec.keep spLaw9 = false := id rfl
theorem spLaw9_f {l} {cs} {x} {K : AVal → Hp → Nat → Prop} : Spec.f spLaw9 ([.agg [.v (.int .i64 l), .rs .call cs], .v (.int .i64 x)]) ([]) K = ((cs.length ≤ 17592186044416 ∧ legsOk cs) ∧ K (.v (.bool true)) [] 0) := id rfl
theorem valid9 : Valid Try.prog 9 spLaw9 := by
  refine validI (Γ := lk [(13, spSzPanel), (15, spToPanel), (39, spHeardS), (40, spHeardI), (34, spEqIntU), (17, spEqPanel), (26, spMarkPanel), (37, spMarkIntU), (38, spHeldIntU)]) Try.func9 bod9 low9 res9 (good_of ⟨⟨cal13, valid13⟩, ⟨cal15, valid15⟩, ⟨cal39, valid39⟩, ⟨cal40, valid40⟩, ⟨cal34, valid34U⟩, ⟨cal17, valid17⟩, ⟨cal26, valid26⟩, ⟨cal37, valid37U⟩, ⟨cal38, valid38U⟩, trivial⟩) ?_
  intro E args objs K h hE hG hP
  simp only [spLaw9] at h
  split at h
  · refine ⟨by simp [Try.ntmps9], ?_⟩
    rename_i l cs x
    obtain ⟨⟨b1, b2⟩, h⟩ := h
    have hsm := heard_small (l := l) (cs := cs) (x := x)
    generalize hv : heard l cs x = v at *
    simp (config := { maxSteps := 2000000 }) only [go_sem, hG, hP, Nat.reduceEqDiff, ↓reduceIte, reduceCtorEq, Nat.reduceAdd, Nat.reduceSub, Nat.reduceMul, Nat.reduceLT, Nat.reduceLeDiff, Int.reduceAdd, Int.reduceSub, Int.reduceMul, Int.reduceLT, Int.reduceLE, Int.reduceEq, Int.reduceNeg, Int.reduceNe, Int.reduceGE, Int.reduceGT, Nat.reduceBEq, Int.reduceToNat,  spSzPanel_f, spSzPanel_t, spSzPanel_k, spToPanel_f, spToPanel_t, spToPanel_k, spHeardS_f, spHeardS_t, spHeardS_k, spHeardI_f, spHeardI_t, spHeardI_k, spEqIntU_f, spEqIntU_t, spEqIntU_k, spEqPanel_f, spEqPanel_t, spEqPanel_k, bb_self, hv]
    refine ⟨⟨b1, b2⟩, fun hs => ⟨_, _, _, ?_, h⟩, fun hs => ?_⟩
    · simp (config := { maxSteps := 2000000 }) only [go_sem, hG, hP, Nat.reduceEqDiff, ↓reduceIte, reduceCtorEq, Nat.reduceAdd, Nat.reduceSub, Nat.reduceMul, Nat.reduceLT, Nat.reduceLeDiff, Int.reduceAdd, Int.reduceSub, Int.reduceMul, Int.reduceLT, Int.reduceLE, Int.reduceEq, Int.reduceNeg, Int.reduceNe, Int.reduceGE, Int.reduceGT, Nat.reduceBEq, Int.reduceToNat]
    obtain ⟨c1, c2⟩ := small_of (by omega) hs
    obtain ⟨m1, m2⟩ := mkN_small hs
    refine ⟨⟨c1, c2⟩, fun xs es hn => ?_⟩
    simp only [hn.tk, hv]
    refine ⟨⟨hn.le, hn.refs⟩, ⟨c1, c2⟩, ⟨c1, c2⟩, fun xs1 es1 hn1 => ?_⟩
    simp only [hn1.tk, hv]
    refine ⟨⟨hn1.le, hn1.refs⟩, ⟨c1, c2⟩, ?_⟩
    by_cases hv0 : v = []
    · subst hv0
      have hz : heldI [] 1 = 1 := by decide
      simp (config := { maxSteps := 2000000 }) only [go_sem, hG, hP, Nat.reduceEqDiff, ↓reduceIte, reduceCtorEq, Nat.reduceAdd, Nat.reduceSub, Nat.reduceMul, Nat.reduceLT, Nat.reduceLeDiff, Int.reduceAdd, Int.reduceSub, Int.reduceMul, Int.reduceLT, Int.reduceLE, Int.reduceEq, Int.reduceNeg, Int.reduceNe, Int.reduceGE, Int.reduceGT, Nat.reduceBEq, Int.reduceToNat,  spSzPanel_f, spSzPanel_t, spSzPanel_k, spToPanel_f, spToPanel_t, spToPanel_k, spHeardS_f, spHeardS_t, spHeardS_k, spHeardI_f, spHeardI_t, spHeardI_k, spEqIntU_f, spEqIntU_t, spEqIntU_k, spEqPanel_f, spEqPanel_t, spEqPanel_k, spMarkPanel_f, spMarkPanel_t, spMarkPanel_k, spHeldIntU_f, spHeldIntU_t, spHeldIntU_k, gMarkU0, gMarkU1, gMarkUt, gMarkUk, take1_v, take1_s, takeP1_eq, bb_self, hv, heardK_eq, hz, impK_t, impK_f]
      refine ⟨⟨c1, c2⟩, fun xs2 es2 hn2 => ?_⟩
      simp only [hn1.tk, hn2.tk]
      refine ⟨⟨⟨hn1.le, hn1.refs⟩, hn2.le, hn2.refs⟩, ⟨c1, c1, c2, c2⟩, fun e => absurd trivial e, fun _ => ?_⟩
      refine ⟨cs, hn1, ⟨rfl, m1⟩, fun xs3 es3 hn3 => ?_⟩
      have hk0 := mkN_le cs 1
      have hk1 : decide (mkN cs 1 < 0) = false := decide_eq_false (by omega)
      have hk2 : (mkN cs 1 < 0) = False := eq_false (by omega)
      simp (config := { maxSteps := 2000000 }) only [go_sem, hG, hP, Nat.reduceEqDiff, ↓reduceIte, reduceCtorEq, Nat.reduceAdd, Nat.reduceSub, Nat.reduceMul, Nat.reduceLT, Nat.reduceLeDiff, Int.reduceAdd, Int.reduceSub, Int.reduceMul, Int.reduceLT, Int.reduceLE, Int.reduceEq, Int.reduceNeg, Int.reduceNe, Int.reduceGE, Int.reduceGT, Nat.reduceBEq, Int.reduceToNat,  spSzPanel_f, spSzPanel_t, spSzPanel_k, spToPanel_f, spToPanel_t, spToPanel_k, spHeardS_f, spHeardS_t, spHeardS_k, spHeardI_f, spHeardI_t, spHeardI_k, spEqIntU_f, spEqIntU_t, spEqIntU_k, spEqPanel_f, spEqPanel_t, spEqPanel_k, spMarkPanel_f, spMarkPanel_t, spMarkPanel_k, spHeldIntU_f, spHeldIntU_t, spHeldIntU_k, gMarkU0, gMarkU1, gMarkUt, gMarkUk, take1_v, take1_s, takeP1_eq, bb_self, hv, heardK_eq, hz, impK_t, impK_f, hk1, hk2]
      refine ⟨⟨c1, c2⟩, fun xs4 es4 hn4 => ?_⟩
      simp only [hn4.tk, hv]
      refine ⟨⟨hn4.le, hn4.refs⟩, ⟨c1, c2⟩, fun _ => ⟨_, _, _, ?_, h⟩, fun hx => absurd trivial hx⟩
      simp (config := { maxSteps := 2000000 }) only [go_sem, hG, hP, Nat.reduceEqDiff, ↓reduceIte, reduceCtorEq, Nat.reduceAdd, Nat.reduceSub, Nat.reduceMul, Nat.reduceLT, Nat.reduceLeDiff, Int.reduceAdd, Int.reduceSub, Int.reduceMul, Int.reduceLT, Int.reduceLE, Int.reduceEq, Int.reduceNeg, Int.reduceNe, Int.reduceGE, Int.reduceGT, Nat.reduceBEq, Int.reduceToNat]
    · have hne : (v = []) = False := eq_false hv0
      simp (config := { maxSteps := 2000000 }) only [go_sem, hG, hP, Nat.reduceEqDiff, ↓reduceIte, reduceCtorEq, Nat.reduceAdd, Nat.reduceSub, Nat.reduceMul, Nat.reduceLT, Nat.reduceLeDiff, Int.reduceAdd, Int.reduceSub, Int.reduceMul, Int.reduceLT, Int.reduceLE, Int.reduceEq, Int.reduceNeg, Int.reduceNe, Int.reduceGE, Int.reduceGT, Nat.reduceBEq, Int.reduceToNat,  spSzPanel_f, spSzPanel_t, spSzPanel_k, spToPanel_f, spToPanel_t, spToPanel_k, spHeardS_f, spHeardS_t, spHeardS_k, spHeardI_f, spHeardI_t, spHeardI_k, spEqIntU_f, spEqIntU_t, spEqIntU_k, spEqPanel_f, spEqPanel_t, spEqPanel_k, spMarkPanel_f, spMarkPanel_t, spMarkPanel_k, spHeldIntU_f, spHeldIntU_t, spHeldIntU_k, gMarkU0, gMarkU1, gMarkUt, gMarkUk, take1_v, take1_s, takeP1_eq, bb_self, hv, heardK_eq, hne, impK_t, impK_f]
      have v1 : v.length ≤ 1099511627776 := by omega
      refine ⟨⟨v1, v1⟩, ⟨c1, c2⟩, fun xs2 es2 hn2 => ?_⟩
      simp only [hn1.tk, hn2.tk]
      refine ⟨⟨⟨hn1.le, hn1.refs⟩, hn2.le, hn2.refs⟩, ⟨c1, c1, c2, c2⟩, fun e => absurd trivial e, fun _ => ?_⟩
      refine ⟨cs, hn1, ⟨rfl, m1⟩, fun xs3 es3 hn3 => ?_⟩
      have hk0 := mkN_le cs 1
      have hk1 : decide (mkN cs 1 < 0) = false := decide_eq_false (by omega)
      have hk2 : (mkN cs 1 < 0) = False := eq_false (by omega)
      simp (config := { maxSteps := 2000000 }) only [go_sem, hG, hP, Nat.reduceEqDiff, ↓reduceIte, reduceCtorEq, Nat.reduceAdd, Nat.reduceSub, Nat.reduceMul, Nat.reduceLT, Nat.reduceLeDiff, Int.reduceAdd, Int.reduceSub, Int.reduceMul, Int.reduceLT, Int.reduceLE, Int.reduceEq, Int.reduceNeg, Int.reduceNe, Int.reduceGE, Int.reduceGT, Nat.reduceBEq, Int.reduceToNat,  spSzPanel_f, spSzPanel_t, spSzPanel_k, spToPanel_f, spToPanel_t, spToPanel_k, spHeardS_f, spHeardS_t, spHeardS_k, spHeardI_f, spHeardI_t, spHeardI_k, spEqIntU_f, spEqIntU_t, spEqIntU_k, spEqPanel_f, spEqPanel_t, spEqPanel_k, spMarkPanel_f, spMarkPanel_t, spMarkPanel_k, spHeldIntU_f, spHeldIntU_t, spHeldIntU_k, gMarkU0, gMarkU1, gMarkUt, gMarkUk, take1_v, take1_s, takeP1_eq, bb_self, hv, heardK_eq, hne, impK_t, impK_f, hk1, hk2, held_im, intMarks_len]
      have him : List.take v.length (intMarks 1 v.length) = intMarks 1 v.length := List.take_of_length_le (by rw [intMarks_len]; omega)
      simp only [him, held_im, intMarks_len]
      refine ⟨⟨v1, v1⟩, v1, v1, fun hx => by omega, fun _ => ⟨fun hx => absurd trivial hx, fun _ => ?_⟩⟩
      refine ⟨⟨c1, c2⟩, fun xs4 es4 hn4 => ?_⟩
      simp only [hn4.tk, hv]
      refine ⟨⟨hn4.le, hn4.refs⟩, ⟨c1, c2⟩, fun hx => absurd hx hv0, fun _ => ?_⟩
      repeat' (first | (refine And.intro ?_ ?_) | (with_reducible intro _))
      all_goals first
        | assumption
        | omega
        | (exfalso; simp_all; done)
        | (exfalso; omega)
        | (refine ⟨_, _, _, ?_, h⟩; simp (config := { maxSteps := 2000000 }) only [go_sem, hG, hP, Nat.reduceEqDiff, ↓reduceIte, reduceCtorEq, Nat.reduceAdd, Nat.reduceSub, Nat.reduceMul, Nat.reduceLT, Nat.reduceLeDiff, Int.reduceAdd, Int.reduceSub, Int.reduceMul, Int.reduceLT, Int.reduceLE, Int.reduceEq, Int.reduceNeg, Int.reduceNe, Int.reduceGE, Int.reduceGT, Nat.reduceBEq, Int.reduceToNat]; done)
        | skip
      skip
      done
  · exact h.elim

end Go.Proofs.YtnbfnpnephfjaaaE

/-! What an argument of a law reads as, in the engine's words; and what a proved function gives a law. -/
namespace Go.Proofs.YtnbfnpnephfjaaaE
open Go Go.RowKit Go.ChangeShapes Go.WideShapes
set_option linter.unusedSimpArgs false
set_option linter.unusedVariables false

def nm0 : Nm := fun _ => none
def noC : CR := ⟨fun _ => False, fun _ => False, fun _ h => h⟩
/-- What type t's data read as, by d; ok: what is known of it. -/
def Tells (P : Program) (t : TypeId) {α : Type} (n : Nat) (d : α → List AVal) (ok : α → Prop) : Prop :=
  ∀ (H : Type) (enc : TypeId × Value → H) (W : World) (base : Nat) (spare : Nat → Bool) (held : Bool) (fuel : Nat) (cs : List Value) (x : DataW H × List MemPlace),
    DataW.trod enc P W base spare held fuel t cs = some x → (∀ b ∈ x.1.weights P t, b ≤ reachBytes) → ∃ y : α, (DenL W noC nm0 (d y) cs ∧ cs.length = n) ∧ ok y
def TellsF (P : Program) (fs : List Field) (off : Nat) {α : Type} (n : Nat) (d : α → List AVal) (ok : α → Prop) : Prop :=
  ∀ (H : Type) (enc : TypeId × Value → H) (W : World) (base : Nat) (spare : Nat → Bool) (held : Bool) (fuel : Nat) (cs : List Value) (xs : List (DataW H × List MemPlace)),
    (∀ (i : Nat) (f : Field), fs[i]? = some f → DataW.trod enc P W base spare held fuel f.type ((cs.drop f.offset).take (P.cellsOf f.type)) = xs[i]?) → xs.length = fs.length → cs.length = off + n →
    (∀ (i : Nat) (f : Field) x, fs[i]? = some f → xs[i]? = some x → ∀ b ∈ x.1.weights P f.type, b ≤ reachBytes) → ∃ y : α, (DenL W noC nm0 (d y) (cs.drop off)) ∧ ok y

theorem den1 {W : World} (v : Value) : DenL W noC nm0 [.v v] [v] := DenL.cons (.v v) .nil
theorem Tells.int {P : Program} {t : TypeId} {k : IntKind} (ht : P.underlying t = some (.int k)) : Tells P t 1 (fun n : Int => [.v (.int k n)]) (fun n => (Lit.int k n).wf = true) := by
  intro H enc W base spare held fuel cs x h _
  cases fuel with
  | zero => simp [DataW.trod] at h
  | succ m =>
    unfold DataW.trod at h
    rw [ht] at h
    split at h <;> simp_all
    obtain ⟨⟨_, h1⟩, _⟩ := h
    exact ⟨_, den1 _, h1⟩
theorem Tells.bool {P : Program} {t : TypeId} (ht : P.underlying t = some .bool) : Tells P t 1 (fun b : Bool => [.v (.bool b)]) (fun _ => True) := by
  intro H enc W base spare held fuel cs x h _
  cases fuel with
  | zero => simp [DataW.trod] at h
  | succ m =>
    unfold DataW.trod at h
    rw [ht] at h
    split at h <;> simp_all
    rename_i b
    cases b
    · exact .inl (den1 _)
    · exact .inr (den1 _)
theorem Tells.string {P : Program} {t : TypeId} (ht : P.underlying t = some .string) : Tells P t 1 (fun s : ByteArray => [.v (.string s)]) (fun s => s.size ≤ 140737488351232) := by
  intro H enc W base spare held fuel cs x h hw
  cases fuel with
  | zero => simp [DataW.trod] at h
  | succ m =>
    unfold DataW.trod at h
    rw [ht] at h
    split at h <;> simp_all
    obtain ⟨_, h2⟩ := h
    subst h2
    refine ⟨_, den1 _, ?_⟩
    have := hw _ (by simp only [DataW.weights]; exact List.mem_singleton.2 rfl)
    rw [Array.length_toList] at this
    exact this
theorem weights_all {H : Type} {P : Program} {e : TypeId} {ds : List (DataW H)} {d : DataW H} (hd : d ∈ ds) {b : Nat} (hb : b ∈ d.weights P e) : b ∈ DataW.weightsAll P e ds := by
  induction ds with
  | nil => cases hd
  | cons a r ih =>
    simp only [DataW.weightsAll, List.mem_append]
    rcases List.mem_cons.1 hd with rfl | hd
    · exact .inl hb
    · exact .inr (ih hd)
theorem Tells.slice {P : Program} {t e : TypeId} (ht : P.underlying t = some (.slice e)) {τ : Ty} {ok : τ.D → Prop} (he : Tells P e (sz τ) (enc τ) ok) (hs : P.cellsOf e = sz τ) {B : Nat} (hB : P.bytesOf e = B) :
    Tells P t 1 (fun xs : List τ.D => [.rs τ xs]) (fun xs => xs.length * B ≤ 140737488351232 ∧ xs.length ≤ maxLen ∧ ∀ x ∈ xs, ok x) := by
  intro H enc' W base spare held fuel cs x h hw
  rcases Go.Deep.open_slice ht h with ⟨rfl, rfl⟩ | ⟨a, len, cap, m, n, D, Pl, rfl, hb, hl, hm, hmm, rfl, hx⟩
  · exact ⟨[], ⟨DenL.cons (Den.rs (t := τ) (xs := []) (A := none) (c := 0) (fun _ => undef) (.inl (by simp)) (Nat.le_refl _) (fun i f x av hx => by simp at hx)) .nil, rfl⟩, by simp [maxLen]⟩
  · have hlm : len ≤ m := by rw [hmm]; split <;> omega
    have hel : ∀ i, i < len → ∃ y : τ.D, (∃ c, W.cells? base (a.add (i * P.cellsOf e)) (P.cellsOf e) = some c ∧ (DenL W noC nm0 (enc τ y) c ∧ c.length = sz τ)) ∧ ok y := by
      intro i hi
      obtain ⟨c, hc, hd⟩ := hx i (by omega)
      obtain ⟨y, hy, hok⟩ := he H enc' W base spare held n c _ hd (fun b hb => hw b (by
        simp only [DataW.weights, ht, List.mem_cons, List.mem_append]
        exact .inr (.inl (weights_all (List.mem_map.2 ⟨i, List.mem_range.2 hi, rfl⟩) hb))))
      exact ⟨y, ⟨c, hc, hy⟩, hok⟩
    have : Inhabited τ.D := ⟨dflt τ⟩
    obtain ⟨f, hf⟩ := Go.Deep.choose_lt hel
    have hlen : ((List.range len).map f).length = len := by simp
    have hcell : ∀ i, i < len → ∃ c, DenL W noC nm0 (enc τ (f i)) c ∧ c.length = sz τ ∧ ∀ j, j < sz τ → W.cell? (a.add (i * sz τ + j)) = c[j]? := by
      intro i hi
      obtain ⟨⟨c, hc, hd, hcl⟩, _⟩ := hf i hi
      refine ⟨c, hd, hcl, fun j hj => ?_⟩
      have hc' := World.cells?_some hc
      rw [hs] at hc'
      have := hc'.2.2 j hj
      rw [← this, Go.Deep.add_add]
    have hall : ∀ k, k < len * sz τ → ∃ u, W.cell? (a.add k) = some u := by
      intro k hk
      have hz := sz_pos τ
      have hi : k / sz τ < len := Nat.div_lt_of_lt_mul (by rw [Nat.mul_comm]; exact hk)
      have hj : k % sz τ < sz τ := Nat.mod_lt _ hz
      obtain ⟨c, _, hcl, hc⟩ := hcell _ hi
      refine ⟨c[k % sz τ]'(by omega), ?_⟩
      have := hc _ hj
      rw [show k / sz τ * sz τ + k % sz τ = k by rw [Nat.mul_comm]; exact Nat.div_add_mod k (sz τ)] at this
      rw [this, List.getElem?_eq_getElem]
    refine ⟨(List.range len).map f, ⟨DenL.cons ?_ .nil, rfl⟩, ?_, by rw [hlen]; exact Nat.le_trans hl hm, ?_⟩
    · have key : Den W noC nm0 (.rs τ ((List.range len).map f)) (.slice (some a) ((List.range len).map f).length cap) := by
        refine .rs (fun k => (W.cell? (a.add k)).getD undef) ?_ (by rw [hlen]; exact hl) ?_
        · rw [hlen]
          rcases Nat.eq_zero_or_pos (len * sz τ) with h0 | hp
          · exact .inl h0
          · obtain ⟨u, hu⟩ := hall 0 hp
            refine .inr ⟨a, rfl, ?_, fun h => h, fun k hk => ?_⟩
            · have := World.block_lt_of_cell? _ _ hu
              simpa [Addr.add] using this
            · obtain ⟨u, hu⟩ := hall k hk
              simp [hu]
        · intro i j x av hx hav
          have hi : i < len := by
            have := (List.getElem?_eq_some_iff.1 hx).1
            rwa [hlen] at this
          have hx' : f i = x := by simpa [hi] using hx
          subst hx'
          obtain ⟨c, hd, hcl, hc⟩ := hcell i hi
          have hj : j < sz τ := by
            have := (List.getElem?_eq_some_iff.1 hav).1
            rwa [enc_length] at this
          have := hc j hj
          rw [this, List.getElem?_eq_getElem (by omega)]
          exact hd.2 j av _ hav (List.getElem?_eq_getElem (by omega))
      rw [hlen] at key
      exact key
    · rw [hlen]
      have := hw ((((List.range len).map D).length + ((List.range (m - len)).map fun j => D (len + j)).length) * P.bytesOf e) (by simp only [DataW.weights, ht]; exact List.mem_cons_self)
      rw [hB] at this
      simp only [List.length_map, List.length_range] at this
      have h2 : len * B ≤ (len + (m - len)) * B := Nat.mul_le_mul_right _ (by omega)
      unfold reachBytes at this
      omega
    · intro y hy
      obtain ⟨i, hi, rfl⟩ := List.mem_map.1 hy
      exact (hf i (List.mem_range.1 hi)).2
theorem TellsF.one {P : Program} {f : Field} {off n : Nat} {α : Type} {d : α → List AVal} {ok : α → Prop} (h : Tells P f.type n d ok) (ho : f.offset = off) (hc : P.cellsOf f.type = n) : TellsF P [f] off n d ok := by
  intro H enc W base spare held fuel cs xs hx hl hcs hw
  match xs, hl with
  | [x], _ =>
    have h0 := hx 0 f rfl
    rw [ho, hc, List.take_of_length_le (by rw [List.length_drop]; omega)] at h0
    obtain ⟨y, hy, hok⟩ := h H enc W base spare held fuel _ x h0 (hw 0 f x rfl rfl)
    exact ⟨y, hy.1, hok⟩
theorem TellsF.cons {P : Program} {f : Field} {fs : List Field} {off n n' : Nat} {α β : Type} {d : α → List AVal} {d' : β → List AVal} {ok : α → Prop} {ok' : β → Prop} (h : Tells P f.type n d ok) (ho : f.offset = off) (hc : P.cellsOf f.type = n)
    (r : TellsF P fs (off + n) n' d' ok') : TellsF P (f :: fs) off (n + n') (fun x : α × β => d x.1 ++ d' x.2) (fun x => ok x.1 ∧ ok' x.2) := by
  intro H enc W base spare held fuel cs xs hx hl hcs hw
  match xs, hl with
  | x :: xs, hl =>
    have h0 := hx 0 f rfl
    rw [ho, hc] at h0
    obtain ⟨y, hy, hok⟩ := h H enc W base spare held fuel _ x h0 (hw 0 f x rfl rfl)
    obtain ⟨y', hy', hok'⟩ := r H enc W base spare held fuel cs xs (fun i g hg => hx (i + 1) g hg) (by simpa using hl) (by omega) (fun i g z hg hz => hw (i + 1) g z hg hz)
    refine ⟨(y, y'), ?_, hok, hok'⟩
    have := hy.1.append hy'
    rw [← List.drop_drop, List.take_append_drop] at this
    exact this
theorem weights_each {H : Type} {P : Program} {fs : List Field} : ∀ {xs : List (DataW H × List MemPlace)} {i : Nat} {f : Field} {x : DataW H × List MemPlace}, fs[i]? = some f → xs[i]? = some x → ∀ b ∈ x.1.weights P f.type, b ∈ DataW.weightsEach P (fs.map (·.type)) (xs.map (·.1)) := by
  intro xs i f x hf hx b hb
  exact DataW.weights_mem_each (j := i) (t := f.type) (d := x.1) (by simp [hf]) (by simp [hx]) b hb
theorem Tells.struct {P : Program} {t : TypeId} {fs : Array Field} (ht : P.underlying t = some (.struct fs)) {α : Type} {n : Nat} {d : α → List AVal} {ok : α → Prop} (h : TellsF P fs.toList 0 n d ok) (hc : P.cellsOf t = n) : Tells P t n d ok := by
  intro H enc W base spare held fuel cs x hx hw
  obtain ⟨xs, m, _, rfl, hl, hlen, hf⟩ := DataW.trod_struct ht hx
  obtain ⟨y, hy, hok⟩ := h H enc W base spare held m cs xs (fun i f hi => hf i f (by rw [← Array.getElem?_toList]; exact hi)) (by simpa using hlen) (by omega) (fun i f x hi hx b hb => hw b (by
    simp only [DataW.weights, ht]
    exact weights_each hi hx b hb))
  exact ⟨y, ⟨by simpa using hy, by omega⟩, hok⟩
/-- An array's elements in line, as fields. -/
theorem Tells.array {P : Program} {t e : TypeId} {k : Nat} (ht : P.underlying t = some (.array k e)) {α : Type} {n : Nat} {d : α → List AVal} {ok : α → Prop} (h : TellsF P ((List.range k).map fun i => { name := "", type := e, offset := i * P.cellsOf e, embedded := false, tag := "", pkgPath := "", byteOffset := 0 }) 0 n d ok)
    (hc : P.cellsOf t = n) : Tells P t n d ok := by
  intro H enc W base spare held fuel cs x hx hw
  obtain ⟨xs, m, _, rfl, hl, hlen, hf⟩ := DataW.trod_array ht hx
  obtain ⟨y, hy, hok⟩ := h H enc W base spare held m cs xs (fun i f hi => by
      have hin : i < k := by
        rcases Nat.lt_or_ge i k with h | h
        · exact h
        · simp [h] at hi
      simp [hin] at hi
      subst hi
      exact hf i hin) (by simpa using hlen) (by omega) (fun i f x hi hx b hb => hw b (by
    have hin : i < k := by
      rcases Nat.lt_or_ge i k with h | h
      · exact h
      · simp [h] at hi
    simp [hin] at hi
    subst hi
    simp only [DataW.weights, ht]
    exact weights_all (List.mem_map.2 ⟨x, List.mem_iff_getElem?.2 ⟨i, hx⟩, rfl⟩) hb))
  exact ⟨y, ⟨by simpa using hy, by omega⟩, hok⟩
/-- The same data, told by another name. -/
theorem Tells.as {P : Program} {t : TypeId} {α β : Type} {n : Nat} {d : α → List AVal} {ok : α → Prop} (h : Tells P t n d ok) (g : α → β) (d' : β → List AVal) (hd : ∀ a, d' (g a) = d a) (ok' : β → Prop) (hok : ∀ a, ok a → ok' (g a)) : Tells P t n d' ok' := by
  intro H enc W base spare held fuel cs x hx hw
  obtain ⟨y, hy, hk⟩ := h H enc W base spare held fuel cs x hx hw
  exact ⟨g y, by rw [hd]; exact hy, hok y hk⟩
theorem okWide_agg {P : Program} {w : World} {r : Reach} {base : Nat} {t : TypeId} {v : Value} (ht : (∃ fs, P.underlying t = some (.struct fs)) ∨ ∃ n e, P.underlying t = some (.array n e)) (h : Value.okWide P w r base t v) : ∃ cs, v = .agg cs ∧ cs.size = P.cellsOf t := by
  rcases ht with ⟨fs, ht⟩ | ⟨n, e, ht⟩
  all_goals
    simp only [Value.okWide, ht] at h
    obtain ⟨cs, h1, h2, _⟩ := h
    exact ⟨cs, h1, h2⟩
section
variable {P : Program} {t : TypeId} {α : Type} {n : Nat} {d : α → List AVal} {ok : α → Prop} {H : Type} {enc : TypeId × Value → H} {W : World} {base : Nat} {spare : Nat → Bool} {held : Bool} {x : DataW H} {ps : List MemPlace} {ts : List TypeId} {ds : List (DataW H)}
/-- A struct (an array) that came in by value. -/
theorem Tells.agg (h : Tells P t n d ok) {cs : Array Value} (hsz : (DataW.weightsEach P ts ds).all (· ≤ reachBytes) = true) (j : Nat) (ht : ts[j]? = some t) (hd : ds[j]? = some x)
    (hx : DataW.Trod enc P W base spare held t (.agg cs) x ps) : ∃ y : α, Den W noC nm0 (.agg (d y)) (.agg cs) ∧ ok y := by
  obtain ⟨fuel, hf⟩ := hx
  have hf' : DataW.trod enc P W base spare held fuel t cs.toList = some (x, ps) := by simpa [Value.cells] using hf
  obtain ⟨y, ⟨hy, _⟩, hok⟩ := h H enc W base spare held fuel cs.toList (x, ps) hf' (fun b hb => by simpa using List.all_eq_true.1 hsz b (DataW.weights_mem_each ht hd b hb))
  exact ⟨y, .agg cs.toList hy.1 hy.2, hok⟩
/-- A value of one cell that came in. -/
theorem Tells.cell {f : α → AVal} (h : Tells P t 1 (fun y => [f y]) ok) {v : Value} (hv : v.cells = #[v]) (hsz : (DataW.weightsEach P ts ds).all (· ≤ reachBytes) = true) (j : Nat) (ht : ts[j]? = some t) (hd : ds[j]? = some x)
    (hx : DataW.Trod enc P W base spare held t v x ps) : ∃ y : α, Den W noC nm0 (f y) v ∧ ok y := by
  obtain ⟨fuel, hf⟩ := hx
  have hf' : DataW.trod enc P W base spare held fuel t [v] = some (x, ps) := by simpa [hv] using hf
  obtain ⟨y, ⟨hy, _⟩, hok⟩ := h H enc W base spare held fuel [v] (x, ps) hf' (fun b hb => by simpa using List.all_eq_true.1 hsz b (DataW.weights_mem_each ht hd b hb))
  exact ⟨y, hy.2 0 _ v rfl rfl, hok⟩
end
/-- A proved law at arguments that can only be read. -/
theorem law_ok {P : Program} {f : Nat} {sp : Spec} (hv : Valid P f sp) {W : World} {args : List AVal} {vals : List Value} (hd : DenL W noC nm0 args vals) (h : ∀ K : AVal → Hp → Nat → Prop, K (.v (.bool true)) [] 0 → sp.f args [] K) :
    Calls P f ⟨vals⟩ W fun e w' => e = .returned (.bool true) ∧ Below W.heap.size W w' := by
  refine Calls.mono (hv W noC nm0 args vals [] (fun r _ _ => r = .v (.bool true)) hd ?_ (h _ rfl)) ?_
  · exact ⟨fun m o h => (by cases h), fun m o m' o' b x b' x' h => (by cases h), fun m o b x h => (by cases h), fun m o m' o' b h => (by cases h), fun m o b h => (by cases h), fun m _ => rfl, rfl, rfl, rfl, Nat.le_refl _, fun b _ _ => rfl⟩
  · rintro e w' ⟨r, v, L', nx', ρ', rfl, hden, hp, _, _, hr⟩
    subst hr
    rw [den_v hden]
    exact ⟨rfl, hp.os, hp.tape, hp.output, hp.size, fun k hk => hp.old k hk (fun h => h)⟩
end Go.Proofs.YtnbfnpnephfjaaaE

/-! The law FnExactHeard, as its row states it: whatever the input the law returns true; no condition. -/
namespace Go.Proofs.Ytnbfnpnephfjaaa.fnExactHeard
open Go.ChangeShapes Go.WideShapes Go.ChangeAt Go.RowKit Go.Proofs.YtnbfnpnephfjaaaE
set_option linter.unusedVariables false
theorem own : ownKnob Try.prog.godebug = none := by kernel_rfl
theorem laidOut : laidOutB Try.prog = true := by kernel_rfl
theorem T3 : Tells Try.prog 3 1 (fun n : Int => [.v (.int .i64 n)]) (fun _ => True) := (Tells.int Try.underlying3).as id _ (fun _ => rfl) _ (fun _ _ => trivial)
theorem T4 : Tells Try.prog 4 1 (fun b : Bool => [.v (.bool b)]) (fun _ => True) := Tells.bool Try.underlying4
theorem T139 : Tells Try.prog 139 (sz .leg) (enc .leg) (fun _ => True) :=
  (Tells.struct (n := 1 + 1) Try.underlying139 (TellsF.cons (n := 1) (n' := 1) T3 (by kernel_rfl) (by kernel_rfl) (TellsF.one T4 (by kernel_rfl) (by kernel_rfl))) (by kernel_rfl)).as (fun x : Int × Bool => (⟨x.1, x.2⟩ : Lg)) (enc .leg) (fun _ => rfl) _ (fun _ _ => trivial)
theorem T107 : Tells Try.prog 107 1 (fun xs : List Lg => [.rs .leg xs]) (fun xs => xs.length ≤ 17592186044416) := (Tells.slice (τ := .leg) Try.underlying107 T139 (by kernel_rfl) (B := 16) (by kernel_rfl)).as id _ (fun _ => rfl) _ (fun xs h => by have := h.1; simp only [id]; omega)
theorem T109 : Tells Try.prog 109 (sz .call) (enc .call) (fun c : Cal => c.legs.length ≤ 17592186044416) :=
  (Tells.struct (n := 1 + 1) Try.underlying109 (TellsF.cons (n := 1) (n' := 1) T4 (by kernel_rfl) (by kernel_rfl) (TellsF.one T107 (by kernel_rfl) (by kernel_rfl))) (by kernel_rfl)).as (fun x : Bool × List Lg => (⟨x.1, x.2⟩ : Cal)) (enc .call) (fun _ => rfl) _ (fun _ h => h.2)
theorem T22 : Tells Try.prog 22 1 (fun xs : List Cal => [.rs .call xs]) (fun xs => xs.length ≤ 17592186044416 ∧ legsOk xs) := (Tells.slice (τ := .call) Try.underlying22 T109 (by kernel_rfl) (B := 32) (by kernel_rfl)).as id _ (fun _ => rfl) _ (fun xs h => ⟨by have := h.1; simp only [id]; omega, h.2.2⟩)
theorem T24 : Tells Try.prog 24 2 (fun d : Int × List Cal => [.v (.int .i64 d.1), .rs .call d.2]) (fun d => d.2.length ≤ 17592186044416 ∧ legsOk d.2) :=
  (Tells.struct (n := 1 + 1) Try.underlying24 (TellsF.cons (n := 1) (n' := 1) T3 (by kernel_rfl) (by kernel_rfl) (TellsF.one T22 (by kernel_rfl) (by kernel_rfl))) (by kernel_rfl)).as id _ (fun _ => rfl) _ (fun a h => h.2)
set_option maxRecDepth 100000 in
set_option maxHeartbeats 1000000 in
theorem lifted (os : Os) (started : os.Started) (H : Type) (enc : TypeId × Value → H) :
    ReturnsInHanded {} Try.checked os 9 .any (Rows.fnExactHeardSpec.pre6 enc Try.prog Try.f9 Rows.fnExactHeardRow.domain false) (Rows.fnExactHeardSpec.post enc Try.prog Try.f9 false true false false) := by
  refine returnsInHanded_of_change_sized (C := Try.checked) own started (by kernel_rfl) Try.func9
    (ChangeSpec.witness6 (enc := enc) (C := Try.checked) false ⟨#[], #[.agg #[.int .i64 0, .slice none 0 0], .int .i64 0], []⟩ 8 (by kernel_rfl) (by kernel_rfl) (by kernel_rfl) (by kernel_rfl)) ?_
  intro W base args ds gs before hval0 hW hcnd hsz0 _
  have hsz : (DataW.weightsEach Try.prog (Try.f9.params.toList ++ Rows.fnExactHeardSpec.plain.varTypes Try.prog) (ds ++ gs)).all (· ≤ reachBytes) = true := hsz0
  have hval : ∀ (j : Nat) t v, Try.f9.params[j]? = some t → args[j]? = some v → Value.okWide Try.prog W .any base t v := hval0
  have hW' := hW
  obtain ⟨p, q, hA0, hV, rfl, hfz, hnd⟩ := hW
  have hA : DataW.TrodAll enc Try.prog W 0 (fun _ => true) true Try.f9.params.toList args.toList ds p := hA0
  rw [Try.params9] at hA hval hsz
  obtain ⟨v0, vs0, d0, ds0, p0, q0, hargs, rfl, rfl, h0, r0⟩ := trodAll_cons hA
  obtain ⟨v1, vs1, d1, ds1, p1, q1, rfl, rfl, rfl, h1, r1⟩ := trodAll_cons r0
  obtain ⟨rfl, rfl, rfl⟩ := trodAll_nil r1
  obtain rfl : args = #[v0, v1] := by cases args; simp_all
  obtain ⟨rfl, rfl⟩ := trodVars_none hV
  obtain ⟨cs0, rfl, _⟩ := okWide_agg (.inl ⟨_, Try.underlying24⟩) (hval 0 24 v0 rfl rfl)
  have k0 := h0
  have lt0 : ∀ x ∈ p0, x.block < W.heap.size := by obtain ⟨m, hm⟩ := k0; exact DataW.trod_lt m _ _ _ hm
  obtain ⟨y0, hK0, o0⟩ := Tells.agg T24 hsz 0 rfl rfl h0
  obtain ⟨a1, rfl, rfl, rfl, w1⟩ := open_int Try.underlying3 (hval 1 3 v1 rfl rfl) h1
  clear hA0 hval0 hsz0 hsz
  refine (law_ok valid9 (DenL.cons hK0 (DenL.cons (.v (.int .i64 a1)) .nil)) (fun K hk => ⟨o0, hk⟩)).mono fun e W' ⟨he, bel⟩ => ?_
  subst he
  exact ⟨_, rfl, _, _, _, [], _, [], hW', trodAll_mk1 (shut_bool Try.underlying4 _), (trodAll_cons_mk (Below.trod laidOut (by kernel_rfl) (of_decide_eq_true (by kernel_rfl)) k0 bel lt0) (trodAll_cons_mk (shut_int Try.underlying3 w1) trodAll_mk0)), rfl, bel.frame _, fun h => by cases h⟩
theorem over : Rows.fnExactHeardRow.holds Try.pinned (OpenSpec.ofChange Rows.fnExactHeardSpec) :=
  OpenClaim.holds_of_wide 9 Try.f9 rfl rfl rfl rfl rfl rfl rfl ⟨rfl, rfl, rfl, rfl, rfl⟩ rfl rfl rfl rfl rfl (by kernel_rfl) Try.func9 (by kernel_rfl)
    (of_decide_eq_true (by kernel_rfl)) (by unfold Func.isWrapper; first | (rw [if_pos (by decide +kernel)]; kernel_rfl) | (rw [if_neg (by decide +kernel)]; exact ⟨rfl, rfl⟩))
    (fun os started H enc _ => lifted os started H enc)
theorem proved : Rows.FnExactHeardSaid := over
#print axioms proved
end Go.Proofs.Ytnbfnpnephfjaaa.fnExactHeard
namespace Go.Proofs.Ytnbfnpnephfjaaa
/-- The row, under a short name, for the claim. -/
theorem fnExactHeard_holds : Rows.FnExactHeardSaid := fnExactHeard.proved
end Go.Proofs.Ytnbfnpnephfjaaa
