/- A part of a proof that a law of the given program holds for every input: no condition. -/
import Derived.Test.YtfgefmkcmkihhaaProg
import Derived.KernelRfl
import Derived.Test.YtfgefmkcmkihhaaKFnExactCarryAll0

/-! The code of a function, in the engine's words. -/
namespace Go.Proofs.YtfgefmkcmkihhaaE
open Go Go.RowKit
@[reducible] def ic30 : IC := (.seq (.ops [⟨some 6, .mov (.const (.bool false)), none⟩]) (.seq (.ops [⟨some 7, .mov (.tmp 0), none⟩, ⟨some 8, .mov (.tmp 1), none⟩, ⟨some 9, .bin .geq (.tmp 7) (.tmp 8), none⟩, ⟨some 10, .mov (.tmp 9), none⟩, ⟨some 11, .mov (.tmp 0), some (10, true)⟩, ⟨some 12, .mov (.tmp 2), some (10, true)⟩, ⟨some 13, .bin .leq (.tmp 11) (.tmp 12), some (10, true)⟩, ⟨some 14, .pick (.tmp 10) (.tmp 13) (.const (.bool false)), none⟩, ⟨some 6, .mov (.tmp 14), none⟩]) .ret))
@[reducible] def rv30 : List RV := [.tmp 6]
theorem low30 : lowC Try.prog tau Try.f30.ntmps (Try.f30.body.getD .skip) = some (erase ic30) := by kernel_rfl
theorem res30 : lowR Try.prog Try.f30.results.toList = some rv30 := by kernel_rfl
theorem bod30 : Try.f30.body = some (Try.f30.body.getD .skip) := by kernel_rfl
theorem cal30 : callable Try.prog 30 = true := by kernel_rfl

end Go.Proofs.YtfgefmkcmkihhaaE

/-! The code of a function, in the engine's words. -/
namespace Go.Proofs.YtfgefmkcmkihhaaE
open Go Go.RowKit
@[reducible] def ic51 : IC := (.seq (.ops [⟨some 4, .mov (.const (.int .i64 0)), none⟩]) (.seq (.ops [⟨some 5, .mov (.tmp 1), none⟩, ⟨some 6, .mov (.tmp 0), none⟩, ⟨some 7, .len (.tmp 6), none⟩, ⟨some 8, .bin .sub (.tmp 5) (.tmp 7), none⟩, ⟨some 1, .mov (.tmp 8), none⟩]) (.seq (.seq (.ops [⟨some 9, .mov (.tmp 1), none⟩, ⟨some 10, .bin .lss (.tmp 9) (.const (.int .i64 0)), none⟩]) (.cond (.tmp 10) (.seq (.ops [⟨some 4, .mov (.const (.int .i64 (-1))), none⟩]) .ret) .skip)) (.seq (.ops [⟨some 11, .mov (.tmp 1), none⟩, ⟨some 4, .mov (.tmp 11), none⟩]) .ret))))
@[reducible] def rv51 : List RV := [.tmp 4]
theorem low51 : lowC Try.prog tau Try.f51.ntmps (Try.f51.body.getD .skip) = some (erase ic51) := by kernel_rfl
theorem res51 : lowR Try.prog Try.f51.results.toList = some rv51 := by kernel_rfl
theorem bod51 : Try.f51.body = some (Try.f51.body.getD .skip) := by kernel_rfl
theorem cal51 : callable Try.prog 51 = true := by kernel_rfl

end Go.Proofs.YtfgefmkcmkihhaaE

/-! The code of a function, in the engine's words. -/
namespace Go.Proofs.YtfgefmkcmkihhaaE
open Go Go.RowKit
@[reducible] def ic52 : IC := (.seq (.ops [⟨some 4, .mov (.const (.int .i64 0)), none⟩]) (.seq (.ops [⟨some 5, .mov (.tmp 1), none⟩, ⟨some 6, .mov (.tmp 0), none⟩, ⟨some 7, .len (.tmp 6), none⟩, ⟨some 8, .bin .sub (.tmp 5) (.tmp 7), none⟩, ⟨some 1, .mov (.tmp 8), none⟩]) (.seq (.seq (.ops [⟨some 9, .mov (.tmp 1), none⟩, ⟨some 10, .bin .lss (.tmp 9) (.const (.int .i64 0)), none⟩]) (.cond (.tmp 10) (.seq (.ops [⟨some 4, .mov (.const (.int .i64 (-1))), none⟩]) .ret) .skip)) (.seq (.ops [⟨some 11, .mov (.tmp 1), none⟩, ⟨some 4, .mov (.tmp 11), none⟩]) .ret))))
@[reducible] def rv52 : List RV := [.tmp 4]
theorem low52 : lowC Try.prog tau Try.f52.ntmps (Try.f52.body.getD .skip) = some (erase ic52) := by kernel_rfl
theorem res52 : lowR Try.prog Try.f52.results.toList = some rv52 := by kernel_rfl
theorem bod52 : Try.f52.body = some (Try.f52.body.getD .skip) := by kernel_rfl
theorem cal52 : callable Try.prog 52 = true := by kernel_rfl

end Go.Proofs.YtfgefmkcmkihhaaE

/-! The code of a function, in the engine's words. -/
namespace Go.Proofs.YtfgefmkcmkihhaaE
open Go Go.RowKit
@[reducible] def ic64 : IC := (.seq (.ops [⟨some 1, .box (.tmp 0), none⟩, ⟨some 2, .new [(.int .i64 0), (.int .i64 0)], none⟩]) (.seq (.ops [⟨some 3, .new [(.int .i64 0), (.int .i64 0)], none⟩]) (.seq (.ops [⟨some 4, .fadr 0 (.tmp 1), none⟩, ⟨some 5, .load 1 false (.tmp 4), none⟩, ⟨some 6, .fadr 0 (.tmp 3), none⟩, ⟨none, .store 1 (.tmp 6) (.tmp 5), none⟩]) (.seq (.ops [⟨some 7, .fadr 1 (.tmp 1), none⟩, ⟨some 8, .load 1 false (.tmp 7), none⟩, ⟨some 9, .fadr 1 (.tmp 3), none⟩, ⟨none, .store 1 (.tmp 9) (.tmp 8), none⟩]) (.seq (.ops [⟨some 10, .load 2 true (.tmp 3), none⟩, ⟨none, .store 2 (.tmp 2) (.tmp 10), none⟩]) .ret)))))
@[reducible] def rv64 : List RV := [.cell 2 2 true]
theorem low64 : lowC Try.prog tau Try.f64.ntmps (Try.f64.body.getD .skip) = some (erase ic64) := by kernel_rfl
theorem res64 : lowR Try.prog Try.f64.results.toList = some rv64 := by kernel_rfl
theorem bod64 : Try.f64.body = some (Try.f64.body.getD .skip) := by kernel_rfl
theorem cal64 : callable Try.prog 64 = true := by kernel_rfl

end Go.Proofs.YtfgefmkcmkihhaaE

/-! The code of a function, in the engine's words. -/
namespace Go.Proofs.YtfgefmkcmkihhaaE
open Go Go.RowKit
@[reducible] def ic53 : IC := (.seq (.ops [⟨some 2, .mov (.const (.slice none 0 0)), none⟩]) (.seq (.ops [⟨some 5, .mov (.tmp 0), none⟩, ⟨some 6, .len (.tmp 5), none⟩, ⟨some 7, .mk .int 8 (.tmp 6) (.tmp 6), none⟩, ⟨some 3, .mov (.tmp 7), none⟩]) (.seq (.seq (.ops [⟨some 4, .mov (.const (.int .i64 0)), none⟩]) (.block 0 (.loop (.seq (.seq (.ops [⟨some 8, .mov (.tmp 4), none⟩, ⟨some 9, .mov (.tmp 0), none⟩, ⟨some 10, .len (.tmp 9), none⟩, ⟨some 11, .bin .lss (.tmp 8) (.tmp 10), none⟩]) (.cond (.tmp 11) .skip (.exit 0))) (.seq (.block 1 (.ops [⟨some 14, .mov (.tmp 3), none⟩, ⟨some 15, .mov (.tmp 4), none⟩, ⟨some 16, .mov (.tmp 0), none⟩, ⟨some 17, .mov (.tmp 4), none⟩, ⟨some 18, .iadr 1 (.tmp 16) (.tmp 17), none⟩, ⟨some 19, .load 1 false (.tmp 18), none⟩, ⟨some 20, .iadr 1 (.tmp 14) (.tmp 15), none⟩, ⟨none, .store 1 (.tmp 20) (.tmp 19), none⟩])) (.ops [⟨some 12, .mov (.tmp 4), none⟩, ⟨some 13, .bin .add (.tmp 12) (.const (.int .i64 1)), none⟩, ⟨some 4, .mov (.tmp 13), none⟩])))))) (.seq (.ops [⟨some 21, .mov (.tmp 3), none⟩, ⟨some 2, .mov (.tmp 21), none⟩]) .ret))))
@[reducible] def rv53 : List RV := [.tmp 2]
theorem low53 : lowC Try.prog tau Try.f53.ntmps (Try.f53.body.getD .skip) = some (erase ic53) := by kernel_rfl
theorem res53 : lowR Try.prog Try.f53.results.toList = some rv53 := by kernel_rfl
theorem bod53 : Try.f53.body = some (Try.f53.body.getD .skip) := by kernel_rfl
theorem cal53 : callable Try.prog 53 = true := by kernel_rfl

end Go.Proofs.YtfgefmkcmkihhaaE

/-! The code of a function, in the engine's words. -/
namespace Go.Proofs.YtfgefmkcmkihhaaE
open Go Go.RowKit
@[reducible] def ic54 : IC := (.seq (.ops [⟨some 2, .mov (.const (.slice none 0 0)), none⟩]) (.seq (.ops [⟨some 5, .mov (.tmp 0), none⟩, ⟨some 6, .len (.tmp 5), none⟩, ⟨some 7, .mk .note 16 (.tmp 6) (.tmp 6), none⟩, ⟨some 3, .mov (.tmp 7), none⟩]) (.seq (.seq (.ops [⟨some 4, .mov (.const (.int .i64 0)), none⟩]) (.block 0 (.loop (.seq (.seq (.ops [⟨some 8, .mov (.tmp 4), none⟩, ⟨some 9, .mov (.tmp 0), none⟩, ⟨some 10, .len (.tmp 9), none⟩, ⟨some 11, .bin .lss (.tmp 8) (.tmp 10), none⟩]) (.cond (.tmp 11) .skip (.exit 0))) (.seq (.block 1 (.ops [⟨some 14, .mov (.tmp 3), none⟩, ⟨some 15, .mov (.tmp 4), none⟩, ⟨some 16, .mov (.tmp 0), none⟩, ⟨some 17, .mov (.tmp 4), none⟩, ⟨some 18, .iadr 2 (.tmp 16) (.tmp 17), none⟩, ⟨some 19, .load 2 true (.tmp 18), none⟩, ⟨some 20, .call 64 [(.tmp 19)], none⟩, ⟨some 21, .iadr 2 (.tmp 14) (.tmp 15), none⟩, ⟨none, .store 2 (.tmp 21) (.tmp 20), none⟩])) (.ops [⟨some 12, .mov (.tmp 4), none⟩, ⟨some 13, .bin .add (.tmp 12) (.const (.int .i64 1)), none⟩, ⟨some 4, .mov (.tmp 13), none⟩])))))) (.seq (.ops [⟨some 22, .mov (.tmp 3), none⟩, ⟨some 2, .mov (.tmp 22), none⟩]) .ret))))
@[reducible] def rv54 : List RV := [.tmp 2]
theorem low54 : lowC Try.prog tau Try.f54.ntmps (Try.f54.body.getD .skip) = some (erase ic54) := by kernel_rfl
theorem res54 : lowR Try.prog Try.f54.results.toList = some rv54 := by kernel_rfl
theorem bod54 : Try.f54.body = some (Try.f54.body.getD .skip) := by kernel_rfl
theorem cal54 : callable Try.prog 54 = true := by kernel_rfl

end Go.Proofs.YtfgefmkcmkihhaaE

/-! Functions over rows of one kind: sizes, copies, comparisons, marks. -/
namespace Go.Proofs.YtfgefmkcmkihhaaE
open Go Go.RowKit
set_option linter.unusedSimpArgs false
set_option linter.unusedVariables false
def spIn : Spec := ⟨fun _ => [], fun args objs K => match args, objs with
  | [.v (.int .i64 x), .v (.int .i64 a), .v (.int .i64 b)], [] => K (.v (.bool (decide (a ≤ x ∧ x ≤ b)))) [] 0
  | _, _ => False⟩
theorem spIn_t {a : List AVal} : spIn.take a = [] := id rfl
theorem spIn_f {x} {a} {b} {K : AVal → Hp → Nat → Prop} : Spec.f spIn ([.v (.int .i64 x), .v (.int .i64 a), .v (.int .i64 b)]) ([]) K = (K (.v (.bool (decide (a ≤ x ∧ x ≤ b)))) [] 0) := id rfl
theorem valid37 : Valid Try.prog 37 spIn := by
  refine validI (Γ := lk []) Try.func37 bod37 low37 res37 (good_of trivial) ?_
  intro E args objs K h hE hG hP
  simp only [spIn] at h
  split at h
  · refine ⟨by simp [Try.ntmps37], ?_⟩
    rename_i x a b
    simp only [go_sem, hG, hP, Nat.reduceEqDiff, ↓reduceIte, reduceCtorEq, Nat.reduceAdd, Nat.reduceSub, Nat.reduceMul, Nat.reduceLT, Nat.reduceLeDiff, Int.reduceAdd, Int.reduceSub, Int.reduceMul, Int.reduceLT, Int.reduceLE, Int.reduceEq, Int.reduceNeg, Int.reduceNe, Int.reduceGE, Int.reduceGT, Nat.reduceBEq, Int.reduceToNat]
    refine ⟨fun h1 => ⟨_, _, _, ?_, h⟩, fun h1 => ⟨_, _, _, ?_, h⟩⟩ <;> simp only [go_sem, hG, hP, Nat.reduceEqDiff, ↓reduceIte, reduceCtorEq, Nat.reduceAdd, Nat.reduceSub, Nat.reduceMul, Nat.reduceLT, Nat.reduceLeDiff, Int.reduceAdd, Int.reduceSub, Int.reduceMul, Int.reduceLT, Int.reduceLE, Int.reduceEq, Int.reduceNeg, Int.reduceNe, Int.reduceGE, Int.reduceGT, Nat.reduceBEq, Int.reduceToNat] <;> simp <;> omega
  · exact h.elim
theorem valid30 : Valid Try.prog 30 spIn := by
  refine validI (Γ := lk []) Try.func30 bod30 low30 res30 (good_of trivial) ?_
  intro E args objs K h hE hG hP
  simp only [spIn] at h
  split at h
  · refine ⟨by simp [Try.ntmps30], ?_⟩
    rename_i x a b
    simp only [go_sem, hG, hP, Nat.reduceEqDiff, ↓reduceIte, reduceCtorEq, Nat.reduceAdd, Nat.reduceSub, Nat.reduceMul, Nat.reduceLT, Nat.reduceLeDiff, Int.reduceAdd, Int.reduceSub, Int.reduceMul, Int.reduceLT, Int.reduceLE, Int.reduceEq, Int.reduceNeg, Int.reduceNe, Int.reduceGE, Int.reduceGT, Nat.reduceBEq, Int.reduceToNat]
    refine ⟨fun h1 => ⟨_, _, _, ?_, h⟩, fun h1 => ⟨_, _, _, ?_, h⟩⟩ <;> simp only [go_sem, hG, hP, Nat.reduceEqDiff, ↓reduceIte, reduceCtorEq, Nat.reduceAdd, Nat.reduceSub, Nat.reduceMul, Nat.reduceLT, Nat.reduceLeDiff, Int.reduceAdd, Int.reduceSub, Int.reduceMul, Int.reduceLT, Int.reduceLE, Int.reduceEq, Int.reduceNeg, Int.reduceNe, Int.reduceGE, Int.reduceGT, Nat.reduceBEq, Int.reduceToNat] <;> simp <;> omega
  · exact h.elim
def szStep (l : Nat) (n : Int) : Int := if n - l < 0 then -1 else n - l
theorem szStep_bd {l : Nat} {n : Int} (h : -1099511627776 ≤ n) (h2 : n ≤ 1099511627776) : -1099511627776 ≤ szStep l n ∧ szStep l n ≤ 1099511627776 := by unfold szStep; split <;> omega
theorem szStep_neg {l : Nat} {n : Int} (h : szStep l n < 0) : szStep l n = -1 := by unfold szStep at h ⊢; split at h <;> rename_i h2 <;> first | rw [if_pos h2] | omega
def spSzIntS : Spec := ⟨fun _ => [], fun args objs K => match args, objs with
  | [.rs .int xs, .v (.int .i64 n)], [] => (xs.length ≤ 17592186044416 ∧ -1099511627776 ≤ n ∧ n ≤ 1099511627776) ∧ K (.v (.int .i64 (szStep xs.length n))) [] 0
  | _, _ => False⟩
theorem spSzIntS_t {a : List AVal} : spSzIntS.take a = [] := id rfl
theorem spSzIntS_f {xs} {n} {K : AVal → Hp → Nat → Prop} : Spec.f spSzIntS ([.rs .int xs, .v (.int .i64 n)]) ([]) K = ((xs.length ≤ 17592186044416 ∧ -1099511627776 ≤ n ∧ n ≤ 1099511627776) ∧ K (.v (.int .i64 (szStep xs.length n))) [] 0) := id rfl
theorem valid51 : Valid Try.prog 51 spSzIntS := by
  refine validI (Γ := lk []) Try.func51 bod51 low51 res51 (good_of trivial) ?_
  intro E args objs K h hE hG hP
  simp only [spSzIntS, szStep] at h
  split at h
  · refine ⟨by simp [Try.ntmps51], ?_⟩
    rename_i xs n
    obtain ⟨⟨b1, b2, b3⟩, h⟩ := h
    simp only [go_sem, hG, hP, Nat.reduceEqDiff, ↓reduceIte, reduceCtorEq, Nat.reduceAdd, Nat.reduceSub, Nat.reduceMul, Nat.reduceLT, Nat.reduceLeDiff, Int.reduceAdd, Int.reduceSub, Int.reduceMul, Int.reduceLT, Int.reduceLE, Int.reduceEq, Int.reduceNeg, Int.reduceNe, Int.reduceGE, Int.reduceGT, Nat.reduceBEq, Int.reduceToNat]
    (try simp (disch := omega) only [wrap_id])
    refine ⟨fun h1 => ⟨_, _, _, ?_, h⟩, fun h1 => ⟨_, _, _, ?_, h⟩⟩ <;> simp only [go_sem, hG, hP, Nat.reduceEqDiff, ↓reduceIte, reduceCtorEq, Nat.reduceAdd, Nat.reduceSub, Nat.reduceMul, Nat.reduceLT, Nat.reduceLeDiff, Int.reduceAdd, Int.reduceSub, Int.reduceMul, Int.reduceLT, Int.reduceLE, Int.reduceEq, Int.reduceNeg, Int.reduceNe, Int.reduceGE, Int.reduceGT, Nat.reduceBEq, Int.reduceToNat] <;> simp <;> omega
  · exact h.elim
def spSzNoteS : Spec := ⟨fun _ => [], fun args objs K => match args, objs with
  | [.rs .note xs, .v (.int .i64 n)], [] => (xs.length ≤ 17592186044416 ∧ -1099511627776 ≤ n ∧ n ≤ 1099511627776) ∧ K (.v (.int .i64 (szStep xs.length n))) [] 0
  | _, _ => False⟩
theorem spSzNoteS_t {a : List AVal} : spSzNoteS.take a = [] := id rfl
theorem spSzNoteS_f {xs} {n} {K : AVal → Hp → Nat → Prop} : Spec.f spSzNoteS ([.rs .note xs, .v (.int .i64 n)]) ([]) K = ((xs.length ≤ 17592186044416 ∧ -1099511627776 ≤ n ∧ n ≤ 1099511627776) ∧ K (.v (.int .i64 (szStep xs.length n))) [] 0) := id rfl
theorem valid52 : Valid Try.prog 52 spSzNoteS := by
  refine validI (Γ := lk []) Try.func52 bod52 low52 res52 (good_of trivial) ?_
  intro E args objs K h hE hG hP
  simp only [spSzNoteS, szStep] at h
  split at h
  · refine ⟨by simp [Try.ntmps52], ?_⟩
    rename_i xs n
    obtain ⟨⟨b1, b2, b3⟩, h⟩ := h
    simp only [go_sem, hG, hP, Nat.reduceEqDiff, ↓reduceIte, reduceCtorEq, Nat.reduceAdd, Nat.reduceSub, Nat.reduceMul, Nat.reduceLT, Nat.reduceLeDiff, Int.reduceAdd, Int.reduceSub, Int.reduceMul, Int.reduceLT, Int.reduceLE, Int.reduceEq, Int.reduceNeg, Int.reduceNe, Int.reduceGE, Int.reduceGT, Nat.reduceBEq, Int.reduceToNat]
    (try simp (disch := omega) only [wrap_id])
    refine ⟨fun h1 => ⟨_, _, _, ?_, h⟩, fun h1 => ⟨_, _, _, ?_, h⟩⟩ <;> simp only [go_sem, hG, hP, Nat.reduceEqDiff, ↓reduceIte, reduceCtorEq, Nat.reduceAdd, Nat.reduceSub, Nat.reduceMul, Nat.reduceLT, Nat.reduceLeDiff, Int.reduceAdd, Int.reduceSub, Int.reduceMul, Int.reduceLT, Int.reduceLE, Int.reduceEq, Int.reduceNeg, Int.reduceNe, Int.reduceGE, Int.reduceGT, Nat.reduceBEq, Int.reduceToNat] <;> simp <;> omega
  · exact h.elim
def spToNote : Spec := ⟨fun _ => [], fun args objs K => match args, objs with
  | [.agg [.v (.int .i64 a), .v (.int .i64 b)]], [] => K (.agg [.v (.int .i64 a), .v (.int .i64 b)]) [] 0
  | _, _ => False⟩
theorem spToNote_t {a : List AVal} : spToNote.take a = [] := id rfl
theorem spToNote_f {a} {b} {K : AVal → Hp → Nat → Prop} : Spec.f spToNote ([.agg [.v (.int .i64 a), .v (.int .i64 b)]]) ([]) K = (K (.agg [.v (.int .i64 a), .v (.int .i64 b)]) [] 0) := id rfl
theorem valid64 : Valid Try.prog 64 spToNote := by
  refine validI (Γ := lk []) Try.func64 bod64 low64 res64 (good_of trivial) ?_
  intro E args objs K h hE hG hP
  simp only [spToNote] at h
  split at h
  · refine ⟨by simp [Try.ntmps64], ?_⟩
    rename_i a b
    simp only [go_sem, hG, hP, Nat.reduceEqDiff, ↓reduceIte, reduceCtorEq, Nat.reduceAdd, Nat.reduceSub, Nat.reduceMul, Nat.reduceLT, Nat.reduceLeDiff, Int.reduceAdd, Int.reduceSub, Int.reduceMul, Int.reduceLT, Int.reduceLE, Int.reduceEq, Int.reduceNeg, Int.reduceNe, Int.reduceGE, Int.reduceGT, Nat.reduceBEq, Int.reduceToNat]
    exact ⟨_, _, _, by simp only [go_sem, hG, hP, Nat.reduceEqDiff, ↓reduceIte, reduceCtorEq, Nat.reduceAdd, Nat.reduceSub, Nat.reduceMul, Nat.reduceLT, Nat.reduceLeDiff, Int.reduceAdd, Int.reduceSub, Int.reduceMul, Int.reduceLT, Int.reduceLE, Int.reduceEq, Int.reduceNeg, Int.reduceNe, Int.reduceGE, Int.reduceGT, Nat.reduceBEq, Int.reduceToNat], h⟩
  · exact h.elim
def spToIntS : Spec := ⟨fun _ => [], fun args objs K => match args, objs with
  | [.rs .int xs], [] => xs.length ≤ 1099511627776 ∧ K (.sub 0 1 0 xs.length) [(0, .row .int xs)] 1
  | _, _ => False⟩
theorem spToIntS_t {a : List AVal} : spToIntS.take a = [] := id rfl
theorem spToIntS_f {xs} {K : AVal → Hp → Nat → Prop} : Spec.f spToIntS ([.rs .int xs]) ([]) K = (xs.length ≤ 1099511627776 ∧ K (.sub 0 1 0 xs.length) [(0, .row .int xs)] 1) := id rfl
theorem valid53 : Valid Try.prog 53 spToIntS := by
  refine validI (Γ := lk []) Try.func53 bod53 low53 res53 (good_of trivial) ?_
  intro E args objs K h hE hG hP
  simp only [spToIntS] at h
  split at h
  · refine ⟨by simp [Try.ntmps53], ?_⟩
    rename_i xs
    obtain ⟨hlen, h⟩ := h
    simp only [go_sem, hG, hP, Nat.reduceEqDiff, ↓reduceIte, reduceCtorEq, Nat.reduceAdd, Nat.reduceSub, Nat.reduceMul, Nat.reduceLT, Nat.reduceLeDiff, Int.reduceAdd, Int.reduceSub, Int.reduceMul, Int.reduceLT, Int.reduceLE, Int.reduceEq, Int.reduceNeg, Int.reduceNe, Int.reduceGE, Int.reduceGT, Nat.reduceBEq, Int.reduceToNat]
    refine ⟨⟨by omega, by unfold appRoom; omega, by omega⟩, ?_⟩
    refine loopI hE (fun k : Nat => ⟨[(0, .rs .int xs), (3, .sub 0 1 0 xs.length), (4, .v (.int .i64 k))], [(0, .row .int (xs.take k ++ List.replicate (xs.length - k) (0 : Int)))], 1, Try.f53.ntmps⟩) (fun k => k ≤ xs.length) (fun k => xs.length - k) ⟨0, Nat.zero_le _, SubS.weak ?_⟩ ?_
    · simp only [go_sem, hG, hP, Nat.reduceEqDiff, ↓reduceIte, reduceCtorEq, Nat.reduceAdd, Nat.reduceSub, Nat.reduceMul, Nat.reduceLT, Nat.reduceLeDiff, Int.reduceAdd, Int.reduceSub, Int.reduceMul, Int.reduceLT, Int.reduceLE, Int.reduceEq, Int.reduceNeg, Int.reduceNe, Int.reduceGE, Int.reduceGT, Nat.reduceBEq, Int.reduceToNat]
      all_goals simp
    · intro k hk
      simp only [go_sem, hG, hP, Nat.reduceEqDiff, ↓reduceIte, reduceCtorEq, Nat.reduceAdd, Nat.reduceSub, Nat.reduceMul, Nat.reduceLT, Nat.reduceLeDiff, Int.reduceAdd, Int.reduceSub, Int.reduceMul, Int.reduceLT, Int.reduceLE, Int.reduceEq, Int.reduceNeg, Int.reduceNe, Int.reduceGE, Int.reduceGT, Nat.reduceBEq, Int.reduceToNat,  S.ev]
      (try simp (disch := omega) only [wrap_id])
      refine ⟨fun hlt => ?_, fun hge => ⟨_, _, _, ?_, h⟩⟩
      · rw [fill_len _ _ _ hk]
        repeat (refine And.intro (by first | omega | (simp; done) | (simp; omega) | (unfold appRoom; omega)) ?_)
        refine ⟨k + 1, by omega, SubS.weak ?_⟩
        simp only [go_sem, hG, hP, Nat.reduceEqDiff, ↓reduceIte, reduceCtorEq, Nat.reduceAdd, Nat.reduceSub, Nat.reduceMul, Nat.reduceLT, Nat.reduceLeDiff, Int.reduceAdd, Int.reduceSub, Int.reduceMul, Int.reduceLT, Int.reduceLE, Int.reduceEq, Int.reduceNeg, Int.reduceNe, Int.reduceGE, Int.reduceGT, Nat.reduceBEq, Int.reduceToNat]
        rw [fill_set _ _ _ _ (by omega)]
        simp
      · simp only [go_sem, hG, hP, Nat.reduceEqDiff, ↓reduceIte, reduceCtorEq, Nat.reduceAdd, Nat.reduceSub, Nat.reduceMul, Nat.reduceLT, Nat.reduceLeDiff, Int.reduceAdd, Int.reduceSub, Int.reduceMul, Int.reduceLT, Int.reduceLE, Int.reduceEq, Int.reduceNeg, Int.reduceNe, Int.reduceGE, Int.reduceGT, Nat.reduceBEq, Int.reduceToNat]
        simp [show k = xs.length by omega]
  · exact h.elim
def spToNoteS : Spec := ⟨fun _ => [], fun args objs K => match args, objs with
  | [.rs .note xs], [] => xs.length ≤ 1099511627776 ∧ K (.sub 0 2 0 xs.length) [(0, .row .note xs)] 1
  | _, _ => False⟩
theorem spToNoteS_t {a : List AVal} : spToNoteS.take a = [] := id rfl
theorem spToNoteS_f {xs} {K : AVal → Hp → Nat → Prop} : Spec.f spToNoteS ([.rs .note xs]) ([]) K = (xs.length ≤ 1099511627776 ∧ K (.sub 0 2 0 xs.length) [(0, .row .note xs)] 1) := id rfl
theorem valid54 : Valid Try.prog 54 spToNoteS := by
  refine validI (Γ := lk [(64, spToNote)]) Try.func54 bod54 low54 res54 (good_of ⟨⟨cal64, valid64⟩, trivial⟩) ?_
  intro E args objs K h hE hG hP
  simp only [spToNoteS] at h
  split at h
  · refine ⟨by simp [Try.ntmps54], ?_⟩
    rename_i xs
    obtain ⟨hlen, h⟩ := h
    simp only [go_sem, hG, hP, Nat.reduceEqDiff, ↓reduceIte, reduceCtorEq, Nat.reduceAdd, Nat.reduceSub, Nat.reduceMul, Nat.reduceLT, Nat.reduceLeDiff, Int.reduceAdd, Int.reduceSub, Int.reduceMul, Int.reduceLT, Int.reduceLE, Int.reduceEq, Int.reduceNeg, Int.reduceNe, Int.reduceGE, Int.reduceGT, Nat.reduceBEq, Int.reduceToNat]
    refine ⟨⟨by omega, by unfold appRoom; omega, by omega⟩, ?_⟩
    refine loopI hE (fun k : Nat => ⟨[(0, .rs .note xs), (3, .sub 0 2 0 xs.length), (4, .v (.int .i64 k))], [(0, .row .note (xs.take k ++ List.replicate (xs.length - k) (⟨0, 0⟩ : Note)))], 1, Try.f54.ntmps⟩) (fun k => k ≤ xs.length) (fun k => xs.length - k) ⟨0, Nat.zero_le _, SubS.weak ?_⟩ ?_
    · simp only [go_sem, hG, hP, Nat.reduceEqDiff, ↓reduceIte, reduceCtorEq, Nat.reduceAdd, Nat.reduceSub, Nat.reduceMul, Nat.reduceLT, Nat.reduceLeDiff, Int.reduceAdd, Int.reduceSub, Int.reduceMul, Int.reduceLT, Int.reduceLE, Int.reduceEq, Int.reduceNeg, Int.reduceNe, Int.reduceGE, Int.reduceGT, Nat.reduceBEq, Int.reduceToNat]
      all_goals simp
    · intro k hk
      simp only [go_sem, hG, hP, Nat.reduceEqDiff, ↓reduceIte, reduceCtorEq, Nat.reduceAdd, Nat.reduceSub, Nat.reduceMul, Nat.reduceLT, Nat.reduceLeDiff, Int.reduceAdd, Int.reduceSub, Int.reduceMul, Int.reduceLT, Int.reduceLE, Int.reduceEq, Int.reduceNeg, Int.reduceNe, Int.reduceGE, Int.reduceGT, Nat.reduceBEq, Int.reduceToNat,  spToNote_f, spToNote_t]
      (try simp (disch := omega) only [wrap_id])
      refine ⟨fun hlt => ?_, fun hge => ⟨_, _, _, ?_, h⟩⟩
      · rw [fill_len _ _ _ hk]
        repeat (refine And.intro (by first | omega | (simp; done) | (simp; omega) | (unfold appRoom; omega)) ?_)
        refine ⟨k + 1, by omega, SubS.weak ?_⟩
        simp only [go_sem, hG, hP, Nat.reduceEqDiff, ↓reduceIte, reduceCtorEq, Nat.reduceAdd, Nat.reduceSub, Nat.reduceMul, Nat.reduceLT, Nat.reduceLeDiff, Int.reduceAdd, Int.reduceSub, Int.reduceMul, Int.reduceLT, Int.reduceLE, Int.reduceEq, Int.reduceNeg, Int.reduceNe, Int.reduceGE, Int.reduceGT, Nat.reduceBEq, Int.reduceToNat]
        rw [fill_set _ _ _ _ (by omega)]
        simp
      · simp only [go_sem, hG, hP, Nat.reduceEqDiff, ↓reduceIte, reduceCtorEq, Nat.reduceAdd, Nat.reduceSub, Nat.reduceMul, Nat.reduceLT, Nat.reduceLeDiff, Int.reduceAdd, Int.reduceSub, Int.reduceMul, Int.reduceLT, Int.reduceLE, Int.reduceEq, Int.reduceNeg, Int.reduceNe, Int.reduceGE, Int.reduceGT, Nat.reduceBEq, Int.reduceToNat]
        simp [show k = xs.length by omega]
  · exact h.elim
end Go.Proofs.YtfgefmkcmkihhaaE

/-! The code of a function, in the engine's words. -/
namespace Go.Proofs.YtfgefmkcmkihhaaE
open Go Go.RowKit
@[reducible] def ic57 : IC := (.seq (.ops [⟨some 4, .mov (.const (.bool false)), none⟩]) (.seq (.seq (.ops [⟨some 6, .mov (.tmp 0), none⟩, ⟨some 7, .len (.tmp 6), none⟩, ⟨some 8, .mov (.tmp 1), none⟩, ⟨some 9, .len (.tmp 8), none⟩, ⟨some 10, .bin .neq (.tmp 7) (.tmp 9), none⟩]) (.cond (.tmp 10) (.seq (.ops [⟨some 4, .mov (.const (.bool false)), none⟩]) .ret) .skip)) (.seq (.seq (.ops [⟨some 5, .mov (.const (.int .i64 0)), none⟩]) (.block 0 (.loop (.seq (.seq (.ops [⟨some 11, .mov (.tmp 5), none⟩, ⟨some 12, .mov (.tmp 0), none⟩, ⟨some 13, .len (.tmp 12), none⟩, ⟨some 14, .bin .lss (.tmp 11) (.tmp 13), none⟩]) (.cond (.tmp 14) .skip (.exit 0))) (.seq (.block 1 (.seq (.draw [⟨some 17, .mov (.tmp 0), none⟩, ⟨some 18, .mov (.tmp 5), none⟩, ⟨some 19, .iadr 1 (.tmp 17) (.tmp 18), none⟩, ⟨some 20, .load 1 false (.tmp 19), none⟩, ⟨some 21, .mov (.tmp 1), none⟩, ⟨some 22, .mov (.tmp 5), none⟩, ⟨some 23, .iadr 1 (.tmp 21) (.tmp 22), none⟩, ⟨some 24, .load 1 false (.tmp 23), none⟩, ⟨some 25, .bin .neq (.tmp 20) (.tmp 24), none⟩] (.held ⟨some 17, .mov (.tmp 0), none⟩ (.held ⟨some 18, .mov (.tmp 5), none⟩ (.held ⟨some 19, .iadr 1 (.tmp 17) (.tmp 18), none⟩ (.held ⟨some 20, .load 1 false (.tmp 19), none⟩ (.held ⟨some 21, .mov (.tmp 1), none⟩ (.held ⟨some 22, .mov (.tmp 5), none⟩ (.held ⟨some 23, .iadr 1 (.tmp 21) (.tmp 22), none⟩ (.held ⟨some 24, .load 1 false (.tmp 23), none⟩ (.held ⟨some 25, .bin .neq (.tmp 20) (.tmp 24), none⟩ .done)))))))))) (.cond (.tmp 25) (.seq (.ops [⟨some 4, .mov (.const (.bool false)), none⟩]) .ret) .skip))) (.ops [⟨some 15, .mov (.tmp 5), none⟩, ⟨some 16, .bin .add (.tmp 15) (.const (.int .i64 1)), none⟩, ⟨some 5, .mov (.tmp 16), none⟩])))))) (.seq (.ops [⟨some 4, .mov (.const (.bool true)), none⟩]) .ret))))
@[reducible] def rv57 : List RV := [.tmp 4]
theorem low57 : lowC Try.prog tau Try.f57.ntmps (Try.f57.body.getD .skip) = some (erase ic57) := by kernel_rfl
theorem res57 : lowR Try.prog Try.f57.results.toList = some rv57 := by kernel_rfl
theorem bod57 : Try.f57.body = some (Try.f57.body.getD .skip) := by kernel_rfl
theorem cal57 : callable Try.prog 57 = true := by kernel_rfl

end Go.Proofs.YtfgefmkcmkihhaaE

/-! The code of a function, in the engine's words. -/
namespace Go.Proofs.YtfgefmkcmkihhaaE
open Go Go.RowKit
@[reducible] def ic58 : IC := (.seq (.ops [⟨some 4, .mov (.const (.bool false)), none⟩]) (.seq (.seq (.ops [⟨some 6, .mov (.tmp 0), none⟩, ⟨some 7, .len (.tmp 6), none⟩, ⟨some 8, .mov (.tmp 1), none⟩, ⟨some 9, .len (.tmp 8), none⟩, ⟨some 10, .bin .neq (.tmp 7) (.tmp 9), none⟩]) (.cond (.tmp 10) (.seq (.ops [⟨some 4, .mov (.const (.bool false)), none⟩]) .ret) .skip)) (.seq (.seq (.ops [⟨some 5, .mov (.const (.int .i64 0)), none⟩]) (.block 0 (.loop (.seq (.seq (.ops [⟨some 11, .mov (.tmp 5), none⟩, ⟨some 12, .mov (.tmp 0), none⟩, ⟨some 13, .len (.tmp 12), none⟩, ⟨some 14, .bin .lss (.tmp 11) (.tmp 13), none⟩]) (.cond (.tmp 14) .skip (.exit 0))) (.seq (.block 1 (.seq (.draw [⟨some 17, .mov (.tmp 0), none⟩, ⟨some 18, .mov (.tmp 5), none⟩, ⟨some 19, .iadr 2 (.tmp 17) (.tmp 18), none⟩, ⟨some 20, .load 2 true (.tmp 19), none⟩, ⟨some 21, .mov (.tmp 1), none⟩, ⟨some 22, .mov (.tmp 5), none⟩, ⟨some 23, .iadr 2 (.tmp 21) (.tmp 22), none⟩, ⟨some 24, .load 2 true (.tmp 23), none⟩, ⟨some 25, .call 65 [(.tmp 20), (.tmp 24)], none⟩, ⟨some 26, .una .not (.tmp 25), none⟩] (.held ⟨some 17, .mov (.tmp 0), none⟩ (.held ⟨some 18, .mov (.tmp 5), none⟩ (.held ⟨some 19, .iadr 2 (.tmp 17) (.tmp 18), none⟩ (.held ⟨some 20, .load 2 true (.tmp 19), none⟩ (.held ⟨some 21, .mov (.tmp 1), none⟩ (.held ⟨some 22, .mov (.tmp 5), none⟩ (.held ⟨some 23, .iadr 2 (.tmp 21) (.tmp 22), none⟩ (.held ⟨some 24, .load 2 true (.tmp 23), none⟩ (.alt ⟨some 25, .call 65 [(.tmp 20), (.tmp 24)], none⟩ (.held ⟨some 26, .una .not (.tmp 25), none⟩ .done) .stop)))))))))) (.cond (.tmp 26) (.seq (.ops [⟨some 4, .mov (.const (.bool false)), none⟩]) .ret) .skip))) (.ops [⟨some 15, .mov (.tmp 5), none⟩, ⟨some 16, .bin .add (.tmp 15) (.const (.int .i64 1)), none⟩, ⟨some 5, .mov (.tmp 16), none⟩])))))) (.seq (.ops [⟨some 4, .mov (.const (.bool true)), none⟩]) .ret))))
@[reducible] def rv58 : List RV := [.tmp 4]
theorem low58 : lowC Try.prog tau Try.f58.ntmps (Try.f58.body.getD .skip) = some (erase ic58) := by kernel_rfl
theorem res58 : lowR Try.prog Try.f58.results.toList = some rv58 := by kernel_rfl
theorem bod58 : Try.f58.body = some (Try.f58.body.getD .skip) := by kernel_rfl
theorem cal58 : callable Try.prog 58 = true := by kernel_rfl

end Go.Proofs.YtfgefmkcmkihhaaE

/-! The code of a function, in the engine's words. -/
namespace Go.Proofs.YtfgefmkcmkihhaaE
open Go Go.RowKit
@[reducible] def ic59 : IC := (.seq (.ops [⟨some 4, .mov (.const (.int .i64 0)), none⟩]) (.seq (.seq (.ops [⟨some 5, .mov (.const (.int .i64 0)), none⟩]) (.block 0 (.loop (.seq (.seq (.ops [⟨some 6, .mov (.tmp 5), none⟩, ⟨some 7, .mov (.tmp 0), none⟩, ⟨some 8, .len (.tmp 7), none⟩, ⟨some 9, .bin .lss (.tmp 6) (.tmp 8), none⟩]) (.cond (.tmp 9) .skip (.exit 0))) (.seq (.block 1 (.seq (.ops [⟨some 12, .mov (.tmp 0), none⟩, ⟨some 13, .mov (.tmp 5), none⟩, ⟨some 14, .mov (.tmp 1), none⟩, ⟨some 15, .iadr 1 (.tmp 12) (.tmp 13), none⟩, ⟨none, .store 1 (.tmp 15) (.tmp 14), none⟩]) (.ops [⟨some 16, .mov (.tmp 1), none⟩, ⟨some 17, .bin .add (.tmp 16) (.const (.int .i64 1)), none⟩, ⟨some 1, .mov (.tmp 17), none⟩]))) (.ops [⟨some 10, .mov (.tmp 5), none⟩, ⟨some 11, .bin .add (.tmp 10) (.const (.int .i64 1)), none⟩, ⟨some 5, .mov (.tmp 11), none⟩])))))) (.seq (.ops [⟨some 18, .mov (.tmp 1), none⟩, ⟨some 4, .mov (.tmp 18), none⟩]) .ret)))
@[reducible] def rv59 : List RV := [.tmp 4]
theorem low59 : lowC Try.prog tau Try.f59.ntmps (Try.f59.body.getD .skip) = some (erase ic59) := by kernel_rfl
theorem res59 : lowR Try.prog Try.f59.results.toList = some rv59 := by kernel_rfl
theorem bod59 : Try.f59.body = some (Try.f59.body.getD .skip) := by kernel_rfl
theorem cal59 : callable Try.prog 59 = true := by kernel_rfl

end Go.Proofs.YtfgefmkcmkihhaaE

/-! The code of a function, in the engine's words. -/
namespace Go.Proofs.YtfgefmkcmkihhaaE
open Go Go.RowKit
@[reducible] def ic60 : IC := (.seq (.ops [⟨some 4, .mov (.const (.int .i64 0)), none⟩]) (.seq (.seq (.ops [⟨some 5, .mov (.const (.int .i64 0)), none⟩]) (.block 0 (.loop (.seq (.seq (.ops [⟨some 6, .mov (.tmp 5), none⟩, ⟨some 7, .mov (.tmp 0), none⟩, ⟨some 8, .len (.tmp 7), none⟩, ⟨some 9, .bin .lss (.tmp 6) (.tmp 8), none⟩]) (.cond (.tmp 9) .skip (.exit 0))) (.seq (.block 1 (.seq (.ops [⟨some 12, .mov (.tmp 0), none⟩, ⟨some 13, .mov (.tmp 5), none⟩, ⟨some 14, .mov (.tmp 1), none⟩, ⟨some 15, .iadr 2 (.tmp 12) (.tmp 13), none⟩, ⟨some 16, .fadr 0 (.tmp 15), none⟩, ⟨none, .store 1 (.tmp 16) (.tmp 14), none⟩]) (.seq (.ops [⟨some 17, .mov (.tmp 1), none⟩, ⟨some 18, .bin .add (.tmp 17) (.const (.int .i64 1)), none⟩, ⟨some 1, .mov (.tmp 18), none⟩]) (.seq (.ops [⟨some 19, .mov (.tmp 0), none⟩, ⟨some 20, .mov (.tmp 5), none⟩, ⟨some 21, .mov (.tmp 1), none⟩, ⟨some 22, .iadr 2 (.tmp 19) (.tmp 20), none⟩, ⟨some 23, .fadr 1 (.tmp 22), none⟩, ⟨none, .store 1 (.tmp 23) (.tmp 21), none⟩]) (.ops [⟨some 24, .mov (.tmp 1), none⟩, ⟨some 25, .bin .add (.tmp 24) (.const (.int .i64 1)), none⟩, ⟨some 1, .mov (.tmp 25), none⟩]))))) (.ops [⟨some 10, .mov (.tmp 5), none⟩, ⟨some 11, .bin .add (.tmp 10) (.const (.int .i64 1)), none⟩, ⟨some 5, .mov (.tmp 11), none⟩])))))) (.seq (.ops [⟨some 26, .mov (.tmp 1), none⟩, ⟨some 4, .mov (.tmp 26), none⟩]) .ret)))
@[reducible] def rv60 : List RV := [.tmp 4]
theorem low60 : lowC Try.prog tau Try.f60.ntmps (Try.f60.body.getD .skip) = some (erase ic60) := by kernel_rfl
theorem res60 : lowR Try.prog Try.f60.results.toList = some rv60 := by kernel_rfl
theorem bod60 : Try.f60.body = some (Try.f60.body.getD .skip) := by kernel_rfl
theorem cal60 : callable Try.prog 60 = true := by kernel_rfl

end Go.Proofs.YtfgefmkcmkihhaaE

/-! The code of a function, in the engine's words. -/
namespace Go.Proofs.YtfgefmkcmkihhaaE
open Go Go.RowKit
@[reducible] def ic61 : IC := (.seq (.ops [⟨some 4, .mov (.const (.int .i64 0)), none⟩]) (.seq (.seq (.ops [⟨some 5, .mov (.const (.int .i64 0)), none⟩]) (.block 0 (.loop (.seq (.seq (.ops [⟨some 6, .mov (.tmp 5), none⟩, ⟨some 7, .mov (.tmp 0), none⟩, ⟨some 8, .len (.tmp 7), none⟩, ⟨some 9, .bin .lss (.tmp 6) (.tmp 8), none⟩]) (.cond (.tmp 9) .skip (.exit 0))) (.seq (.block 1 (.seq (.seq (.ops [⟨some 12, .mov (.tmp 0), none⟩, ⟨some 13, .mov (.tmp 5), none⟩, ⟨some 14, .iadr 1 (.tmp 12) (.tmp 13), none⟩, ⟨some 15, .load 1 false (.tmp 14), none⟩, ⟨some 16, .mov (.tmp 1), none⟩, ⟨some 17, .bin .neq (.tmp 15) (.tmp 16), none⟩]) (.cond (.tmp 17) (.seq (.ops [⟨some 4, .mov (.const (.int .i64 (-1))), none⟩]) .ret) .skip)) (.ops [⟨some 18, .mov (.tmp 1), none⟩, ⟨some 19, .bin .add (.tmp 18) (.const (.int .i64 1)), none⟩, ⟨some 1, .mov (.tmp 19), none⟩]))) (.ops [⟨some 10, .mov (.tmp 5), none⟩, ⟨some 11, .bin .add (.tmp 10) (.const (.int .i64 1)), none⟩, ⟨some 5, .mov (.tmp 11), none⟩])))))) (.seq (.ops [⟨some 20, .mov (.tmp 1), none⟩, ⟨some 4, .mov (.tmp 20), none⟩]) .ret)))
@[reducible] def rv61 : List RV := [.tmp 4]
theorem low61 : lowC Try.prog tau Try.f61.ntmps (Try.f61.body.getD .skip) = some (erase ic61) := by kernel_rfl
theorem res61 : lowR Try.prog Try.f61.results.toList = some rv61 := by kernel_rfl
theorem bod61 : Try.f61.body = some (Try.f61.body.getD .skip) := by kernel_rfl
theorem cal61 : callable Try.prog 61 = true := by kernel_rfl

end Go.Proofs.YtfgefmkcmkihhaaE

/-! The code of a function, in the engine's words. -/
namespace Go.Proofs.YtfgefmkcmkihhaaE
open Go Go.RowKit
@[reducible] def ic62 : IC := (.seq (.ops [⟨some 4, .mov (.const (.int .i64 0)), none⟩]) (.seq (.seq (.ops [⟨some 5, .mov (.const (.int .i64 0)), none⟩]) (.block 0 (.loop (.seq (.seq (.ops [⟨some 6, .mov (.tmp 5), none⟩, ⟨some 7, .mov (.tmp 0), none⟩, ⟨some 8, .len (.tmp 7), none⟩, ⟨some 9, .bin .lss (.tmp 6) (.tmp 8), none⟩]) (.cond (.tmp 9) .skip (.exit 0))) (.seq (.block 1 (.seq (.seq (.ops [⟨some 12, .mov (.tmp 0), none⟩, ⟨some 13, .mov (.tmp 5), none⟩, ⟨some 14, .iadr 2 (.tmp 12) (.tmp 13), none⟩, ⟨some 15, .fadr 0 (.tmp 14), none⟩, ⟨some 16, .load 1 false (.tmp 15), none⟩, ⟨some 17, .mov (.tmp 1), none⟩, ⟨some 18, .bin .neq (.tmp 16) (.tmp 17), none⟩]) (.cond (.tmp 18) (.seq (.ops [⟨some 4, .mov (.const (.int .i64 (-1))), none⟩]) .ret) .skip)) (.seq (.ops [⟨some 19, .mov (.tmp 1), none⟩, ⟨some 20, .bin .add (.tmp 19) (.const (.int .i64 1)), none⟩, ⟨some 1, .mov (.tmp 20), none⟩]) (.seq (.seq (.ops [⟨some 21, .mov (.tmp 0), none⟩, ⟨some 22, .mov (.tmp 5), none⟩, ⟨some 23, .iadr 2 (.tmp 21) (.tmp 22), none⟩, ⟨some 24, .fadr 1 (.tmp 23), none⟩, ⟨some 25, .load 1 false (.tmp 24), none⟩, ⟨some 26, .mov (.tmp 1), none⟩, ⟨some 27, .bin .neq (.tmp 25) (.tmp 26), none⟩]) (.cond (.tmp 27) (.seq (.ops [⟨some 4, .mov (.const (.int .i64 (-1))), none⟩]) .ret) .skip)) (.ops [⟨some 28, .mov (.tmp 1), none⟩, ⟨some 29, .bin .add (.tmp 28) (.const (.int .i64 1)), none⟩, ⟨some 1, .mov (.tmp 29), none⟩]))))) (.ops [⟨some 10, .mov (.tmp 5), none⟩, ⟨some 11, .bin .add (.tmp 10) (.const (.int .i64 1)), none⟩, ⟨some 5, .mov (.tmp 11), none⟩])))))) (.seq (.ops [⟨some 30, .mov (.tmp 1), none⟩, ⟨some 4, .mov (.tmp 30), none⟩]) .ret)))
@[reducible] def rv62 : List RV := [.tmp 4]
theorem low62 : lowC Try.prog tau Try.f62.ntmps (Try.f62.body.getD .skip) = some (erase ic62) := by kernel_rfl
theorem res62 : lowR Try.prog Try.f62.results.toList = some rv62 := by kernel_rfl
theorem bod62 : Try.f62.body = some (Try.f62.body.getD .skip) := by kernel_rfl
theorem cal62 : callable Try.prog 62 = true := by kernel_rfl

end Go.Proofs.YtfgefmkcmkihhaaE

/-! The code of a function, in the engine's words. -/
namespace Go.Proofs.YtfgefmkcmkihhaaE
open Go Go.RowKit
@[reducible] def ic65 : IC := (.seq (.ops [⟨some 2, .box (.tmp 0), none⟩, ⟨some 3, .box (.tmp 1), none⟩, ⟨some 4, .mov (.const (.bool false)), none⟩]) (.seq (.seq (.ops [⟨some 5, .fadr 0 (.tmp 2), none⟩, ⟨some 6, .load 1 false (.tmp 5), none⟩, ⟨some 7, .fadr 0 (.tmp 3), none⟩, ⟨some 8, .load 1 false (.tmp 7), none⟩, ⟨some 9, .bin .neq (.tmp 6) (.tmp 8), none⟩]) (.cond (.tmp 9) (.seq (.ops [⟨some 4, .mov (.const (.bool false)), none⟩]) .ret) .skip)) (.seq (.seq (.ops [⟨some 10, .fadr 1 (.tmp 2), none⟩, ⟨some 11, .load 1 false (.tmp 10), none⟩, ⟨some 12, .fadr 1 (.tmp 3), none⟩, ⟨some 13, .load 1 false (.tmp 12), none⟩, ⟨some 14, .bin .neq (.tmp 11) (.tmp 13), none⟩]) (.cond (.tmp 14) (.seq (.ops [⟨some 4, .mov (.const (.bool false)), none⟩]) .ret) .skip)) (.seq (.ops [⟨some 4, .mov (.const (.bool true)), none⟩]) .ret))))
@[reducible] def rv65 : List RV := [.tmp 4]
theorem low65 : lowC Try.prog tau Try.f65.ntmps (Try.f65.body.getD .skip) = some (erase ic65) := by kernel_rfl
theorem res65 : lowR Try.prog Try.f65.results.toList = some rv65 := by kernel_rfl
theorem bod65 : Try.f65.body = some (Try.f65.body.getD .skip) := by kernel_rfl
theorem cal65 : callable Try.prog 65 = true := by kernel_rfl

end Go.Proofs.YtfgefmkcmkihhaaE

/-! Functions over rows of one kind: comparisons, marks. -/
namespace Go.Proofs.YtfgefmkcmkihhaaE
open Go Go.RowKit
set_option linter.unusedSimpArgs false
set_option linter.unusedVariables false

theorem take_step {α : Type} {xs ys : List α} {k : Nat} (d : α) (h : xs.take k = ys.take k) (h1 : k < xs.length) (h2 : k < ys.length) (he : xs.getD k d = ys.getD k d) : xs.take (k + 1) = ys.take (k + 1) := by
  rw [List.take_succ_eq_append_getElem h1, List.take_succ_eq_append_getElem h2, h]
  simp [List.getD, List.getElem?_eq_getElem h1, List.getElem?_eq_getElem h2] at he
  rw [he]
theorem take_all {α : Type} {xs ys : List α} {k : Nat} (h : xs.take k = ys.take k) (hl : xs.length = ys.length) (hk : xs.length ≤ k) : xs = ys := by
  rwa [List.take_of_length_le hk, List.take_of_length_le (by omega)] at h
def spEqNote : Spec := ⟨fun _ => [], fun args objs K => match args, objs with
  | [.agg [.v (.int .i64 a), .v (.int .i64 b)], .agg [.v (.int .i64 c), .v (.int .i64 d)]], [] => K (.v (.bool (decide (a = c ∧ b = d)))) [] 0
  | _, _ => False⟩
theorem spEqNote_t {a : List AVal} : spEqNote.take a = [] := id rfl
theorem spEqNote_f {a} {b} {c} {d} {K : AVal → Hp → Nat → Prop} : Spec.f spEqNote ([.agg [.v (.int .i64 a), .v (.int .i64 b)], .agg [.v (.int .i64 c), .v (.int .i64 d)]]) ([]) K = (K (.v (.bool (decide (a = c ∧ b = d)))) [] 0) := id rfl
theorem valid65 : Valid Try.prog 65 spEqNote := by
  refine validI (Γ := lk []) Try.func65 bod65 low65 res65 (good_of trivial) ?_
  intro E args objs K h hE hG hP
  simp only [spEqNote] at h
  split at h
  · refine ⟨by simp [Try.ntmps65], ?_⟩
    rename_i a b c d
    simp only [go_sem, hG, hP, Nat.reduceEqDiff, ↓reduceIte, reduceCtorEq, Nat.reduceAdd, Nat.reduceSub, Nat.reduceMul, Nat.reduceLT, Nat.reduceLeDiff, Int.reduceAdd, Int.reduceSub, Int.reduceMul, Int.reduceLT, Int.reduceLE, Int.reduceEq, Int.reduceNeg, Int.reduceNe, Int.reduceGE, Int.reduceGT, Nat.reduceBEq, Int.reduceToNat]
    refine ⟨fun h1 => ⟨_, _, _, ?_, h⟩, fun h1 => ⟨fun h2 => ⟨_, _, _, ?_, h⟩, fun h2 => ⟨_, _, _, ?_, h⟩⟩⟩ <;> simp only [go_sem, hG, hP, Nat.reduceEqDiff, ↓reduceIte, reduceCtorEq, Nat.reduceAdd, Nat.reduceSub, Nat.reduceMul, Nat.reduceLT, Nat.reduceLeDiff, Int.reduceAdd, Int.reduceSub, Int.reduceMul, Int.reduceLT, Int.reduceLE, Int.reduceEq, Int.reduceNeg, Int.reduceNe, Int.reduceGE, Int.reduceGT, Nat.reduceBEq, Int.reduceToNat] <;> simp <;> omega
  · exact h.elim
theorem note_ext {a b : Note} (h : a.kind = b.kind) (k : a.circuit = b.circuit) : a = b := by cases a; cases b; simp_all
def spEqIntS : Spec := ⟨fun _ => [], fun args objs K => match args, objs with
  | [.rs .int xs, .rs .int ys], [] => (xs.length ≤ 1099511627776 ∧ ys.length ≤ 1099511627776) ∧ K (.v (.bool (decide (xs = ys)))) [] 0
  | _, _ => False⟩
theorem spEqIntS_t {a : List AVal} : spEqIntS.take a = [] := id rfl
theorem spEqIntS_f {xs} {ys} {K : AVal → Hp → Nat → Prop} : Spec.f spEqIntS ([.rs .int xs, .rs .int ys]) ([]) K = ((xs.length ≤ 1099511627776 ∧ ys.length ≤ 1099511627776) ∧ K (.v (.bool (decide (xs = ys)))) [] 0) := id rfl
theorem valid57 : Valid Try.prog 57 spEqIntS := by
  refine validI (Γ := lk []) Try.func57 bod57 low57 res57 (good_of trivial) ?_
  intro E args objs K h hE hG hP
  simp only [spEqIntS] at h
  split at h
  · refine ⟨by simp [Try.ntmps57], ?_⟩
    rename_i xs ys
    obtain ⟨⟨hlen, hlen2⟩, h⟩ := h
    simp only [go_sem, hG, hP, Nat.reduceEqDiff, ↓reduceIte, reduceCtorEq, Nat.reduceAdd, Nat.reduceSub, Nat.reduceMul, Nat.reduceLT, Nat.reduceLeDiff, Int.reduceAdd, Int.reduceSub, Int.reduceMul, Int.reduceLT, Int.reduceLE, Int.reduceEq, Int.reduceNeg, Int.reduceNe, Int.reduceGE, Int.reduceGT, Nat.reduceBEq, Int.reduceToNat]
    refine ⟨fun h1 => ⟨_, _, _, ?_, h⟩, fun h1 => ?_⟩
    · simp only [go_sem, hG, hP, Nat.reduceEqDiff, ↓reduceIte, reduceCtorEq, Nat.reduceAdd, Nat.reduceSub, Nat.reduceMul, Nat.reduceLT, Nat.reduceLeDiff, Int.reduceAdd, Int.reduceSub, Int.reduceMul, Int.reduceLT, Int.reduceLE, Int.reduceEq, Int.reduceNeg, Int.reduceNe, Int.reduceGE, Int.reduceGT, Nat.reduceBEq, Int.reduceToNat]
      rw [decide_eq_false fun e => h1 (by rw [e])]
    · have hle : xs.length = ys.length := by omega
      refine loopI hE (fun k : Nat => ⟨[(0, .rs .int xs), (1, .rs .int ys), (5, .v (.int .i64 k))], [], 0, Try.f57.ntmps⟩) (fun k => k ≤ xs.length ∧ xs.take k = ys.take k) (fun k => xs.length - k) ⟨0, ⟨Nat.zero_le _, rfl⟩, SubS.weak ?_⟩ ?_
      · simp only [go_sem, hG, hP, Nat.reduceEqDiff, ↓reduceIte, reduceCtorEq, Nat.reduceAdd, Nat.reduceSub, Nat.reduceMul, Nat.reduceLT, Nat.reduceLeDiff, Int.reduceAdd, Int.reduceSub, Int.reduceMul, Int.reduceLT, Int.reduceLE, Int.reduceEq, Int.reduceNeg, Int.reduceNe, Int.reduceGE, Int.reduceGT, Nat.reduceBEq, Int.reduceToNat]
        all_goals simp
      · intro k ⟨hk, hpre⟩
        simp only [go_sem, hG, hP, Nat.reduceEqDiff, ↓reduceIte, reduceCtorEq, Nat.reduceAdd, Nat.reduceSub, Nat.reduceMul, Nat.reduceLT, Nat.reduceLeDiff, Int.reduceAdd, Int.reduceSub, Int.reduceMul, Int.reduceLT, Int.reduceLE, Int.reduceEq, Int.reduceNeg, Int.reduceNe, Int.reduceGE, Int.reduceGT, Nat.reduceBEq, Int.reduceToNat]
        (try simp (disch := omega) only [wrap_id])
        refine ⟨fun hlt => ?_, fun hge => ⟨_, _, _, ?_, h⟩⟩
        · repeat (refine And.intro (by first | omega | (simp; done) | (simp; omega) | (unfold appRoom; omega)) ?_)
          refine ⟨fun hne => ⟨_, _, _, ?_, h⟩, fun heq => ?_⟩
          · simp only [go_sem, hG, hP, Nat.reduceEqDiff, ↓reduceIte, reduceCtorEq, Nat.reduceAdd, Nat.reduceSub, Nat.reduceMul, Nat.reduceLT, Nat.reduceLeDiff, Int.reduceAdd, Int.reduceSub, Int.reduceMul, Int.reduceLT, Int.reduceLE, Int.reduceEq, Int.reduceNeg, Int.reduceNe, Int.reduceGE, Int.reduceGT, Nat.reduceBEq, Int.reduceToNat]
            rw [decide_eq_false fun e => ?_]
            subst e
            simp at hne
          · refine ⟨k + 1, ⟨⟨by omega, take_step (0 : Int) hpre (by omega) (by omega) (by simpa using heq)⟩, by omega⟩, SubS.weak ?_⟩
            simp only [go_sem, hG, hP, Nat.reduceEqDiff, ↓reduceIte, reduceCtorEq, Nat.reduceAdd, Nat.reduceSub, Nat.reduceMul, Nat.reduceLT, Nat.reduceLeDiff, Int.reduceAdd, Int.reduceSub, Int.reduceMul, Int.reduceLT, Int.reduceLE, Int.reduceEq, Int.reduceNeg, Int.reduceNe, Int.reduceGE, Int.reduceGT, Nat.reduceBEq, Int.reduceToNat]
            all_goals simp
        · simp only [go_sem, hG, hP, Nat.reduceEqDiff, ↓reduceIte, reduceCtorEq, Nat.reduceAdd, Nat.reduceSub, Nat.reduceMul, Nat.reduceLT, Nat.reduceLeDiff, Int.reduceAdd, Int.reduceSub, Int.reduceMul, Int.reduceLT, Int.reduceLE, Int.reduceEq, Int.reduceNeg, Int.reduceNe, Int.reduceGE, Int.reduceGT, Nat.reduceBEq, Int.reduceToNat]
          rw [decide_eq_true (take_all hpre hle (by omega))]
  · exact h.elim
def spEqNoteS : Spec := ⟨fun _ => [], fun args objs K => match args, objs with
  | [.rs .note xs, .rs .note ys], [] => (xs.length ≤ 1099511627776 ∧ ys.length ≤ 1099511627776) ∧ K (.v (.bool (decide (xs = ys)))) [] 0
  | _, _ => False⟩
theorem spEqNoteS_t {a : List AVal} : spEqNoteS.take a = [] := id rfl
theorem spEqNoteS_f {xs} {ys} {K : AVal → Hp → Nat → Prop} : Spec.f spEqNoteS ([.rs .note xs, .rs .note ys]) ([]) K = ((xs.length ≤ 1099511627776 ∧ ys.length ≤ 1099511627776) ∧ K (.v (.bool (decide (xs = ys)))) [] 0) := id rfl
theorem valid58 : Valid Try.prog 58 spEqNoteS := by
  refine validI (Γ := lk [(65, spEqNote)]) Try.func58 bod58 low58 res58 (good_of ⟨⟨cal65, valid65⟩, trivial⟩) ?_
  intro E args objs K h hE hG hP
  simp only [spEqNoteS] at h
  split at h
  · refine ⟨by simp [Try.ntmps58], ?_⟩
    rename_i xs ys
    obtain ⟨⟨hlen, hlen2⟩, h⟩ := h
    simp only [go_sem, hG, hP, Nat.reduceEqDiff, ↓reduceIte, reduceCtorEq, Nat.reduceAdd, Nat.reduceSub, Nat.reduceMul, Nat.reduceLT, Nat.reduceLeDiff, Int.reduceAdd, Int.reduceSub, Int.reduceMul, Int.reduceLT, Int.reduceLE, Int.reduceEq, Int.reduceNeg, Int.reduceNe, Int.reduceGE, Int.reduceGT, Nat.reduceBEq, Int.reduceToNat]
    refine ⟨fun h1 => ⟨_, _, _, ?_, h⟩, fun h1 => ?_⟩
    · simp only [go_sem, hG, hP, Nat.reduceEqDiff, ↓reduceIte, reduceCtorEq, Nat.reduceAdd, Nat.reduceSub, Nat.reduceMul, Nat.reduceLT, Nat.reduceLeDiff, Int.reduceAdd, Int.reduceSub, Int.reduceMul, Int.reduceLT, Int.reduceLE, Int.reduceEq, Int.reduceNeg, Int.reduceNe, Int.reduceGE, Int.reduceGT, Nat.reduceBEq, Int.reduceToNat]
      rw [decide_eq_false fun e => h1 (by rw [e])]
    · have hle : xs.length = ys.length := by omega
      refine loopI hE (fun k : Nat => ⟨[(0, .rs .note xs), (1, .rs .note ys), (5, .v (.int .i64 k))], [], 0, Try.f58.ntmps⟩) (fun k => k ≤ xs.length ∧ xs.take k = ys.take k) (fun k => xs.length - k) ⟨0, ⟨Nat.zero_le _, rfl⟩, SubS.weak ?_⟩ ?_
      · simp only [go_sem, hG, hP, Nat.reduceEqDiff, ↓reduceIte, reduceCtorEq, Nat.reduceAdd, Nat.reduceSub, Nat.reduceMul, Nat.reduceLT, Nat.reduceLeDiff, Int.reduceAdd, Int.reduceSub, Int.reduceMul, Int.reduceLT, Int.reduceLE, Int.reduceEq, Int.reduceNeg, Int.reduceNe, Int.reduceGE, Int.reduceGT, Nat.reduceBEq, Int.reduceToNat]
        all_goals simp
      · intro k ⟨hk, hpre⟩
        simp only [go_sem, hG, hP, Nat.reduceEqDiff, ↓reduceIte, reduceCtorEq, Nat.reduceAdd, Nat.reduceSub, Nat.reduceMul, Nat.reduceLT, Nat.reduceLeDiff, Int.reduceAdd, Int.reduceSub, Int.reduceMul, Int.reduceLT, Int.reduceLE, Int.reduceEq, Int.reduceNeg, Int.reduceNe, Int.reduceGE, Int.reduceGT, Nat.reduceBEq, Int.reduceToNat,  spEqNote_f, spEqNote_t]
        (try simp (disch := omega) only [wrap_id])
        refine ⟨fun hlt => ?_, fun hge => ⟨_, _, _, ?_, h⟩⟩
        · repeat (refine And.intro (by first | omega | (simp; done) | (simp; omega) | (unfold appRoom; omega)) ?_)
          refine ⟨fun hne => ⟨_, _, _, ?_, h⟩, fun heq => ?_⟩
          · simp only [go_sem, hG, hP, Nat.reduceEqDiff, ↓reduceIte, reduceCtorEq, Nat.reduceAdd, Nat.reduceSub, Nat.reduceMul, Nat.reduceLT, Nat.reduceLeDiff, Int.reduceAdd, Int.reduceSub, Int.reduceMul, Int.reduceLT, Int.reduceLE, Int.reduceEq, Int.reduceNeg, Int.reduceNe, Int.reduceGE, Int.reduceGT, Nat.reduceBEq, Int.reduceToNat]
            rw [decide_eq_false fun e => ?_]
            subst e
            simp at hne
          · refine ⟨k + 1, ⟨⟨by omega, take_step (⟨0, 0⟩ : Note) hpre (by omega) (by omega) (by simp at heq; exact note_ext heq.1 heq.2)⟩, by omega⟩, SubS.weak ?_⟩
            simp only [go_sem, hG, hP, Nat.reduceEqDiff, ↓reduceIte, reduceCtorEq, Nat.reduceAdd, Nat.reduceSub, Nat.reduceMul, Nat.reduceLT, Nat.reduceLeDiff, Int.reduceAdd, Int.reduceSub, Int.reduceMul, Int.reduceLT, Int.reduceLE, Int.reduceEq, Int.reduceNeg, Int.reduceNe, Int.reduceGE, Int.reduceGT, Nat.reduceBEq, Int.reduceToNat]
            all_goals simp
        · simp only [go_sem, hG, hP, Nat.reduceEqDiff, ↓reduceIte, reduceCtorEq, Nat.reduceAdd, Nat.reduceSub, Nat.reduceMul, Nat.reduceLT, Nat.reduceLeDiff, Int.reduceAdd, Int.reduceSub, Int.reduceMul, Int.reduceLT, Int.reduceLE, Int.reduceEq, Int.reduceNeg, Int.reduceNe, Int.reduceGE, Int.reduceGT, Nat.reduceBEq, Int.reduceToNat]
          rw [decide_eq_true (take_all hpre hle (by omega))]
  · exact h.elim
end Go.Proofs.YtfgefmkcmkihhaaE

/-! Functions over rows of one kind: marks. -/
namespace Go.Proofs.YtfgefmkcmkihhaaE
open Go Go.RowKit
set_option linter.unusedSimpArgs false
set_option linter.unusedVariables false

def intMarks (k : Int) (n : Nat) : List Int := (List.range n).map fun (i : Nat) => k + (i : Int)
def noteMarks (k : Int) (n : Nat) : List Note := (List.range n).map fun (i : Nat) => ⟨k + 2 * (i : Int), k + 2 * (i : Int) + 1⟩
theorem set_step {α : Type} {ys m : List α} {j : Nat} {x : α} (d : α) (h : ys.take j = m.take j) (h1 : j < ys.length) (h2 : j < m.length) (hx : x = m.getD j d) : (ys.set j x).take (j + 1) = m.take (j + 1) := by
  refine take_step d ?_ (by simpa using h1) h2 (by simp [h1, hx, List.getD])
  rw [List.take_set_of_le (Nat.le_refl _)]; exact h
theorem set_step2 {α : Type} {ys m : List α} {j : Nat} {x y : α} (d : α) (h : ys.take j = m.take j) (h1 : j < ys.length) (h2 : j < m.length) (hx : x = m.getD j d) : ((ys.set j y).set j x).take (j + 1) = m.take (j + 1) := by
  rw [List.set_set]; exact set_step d h h1 h2 hx
theorem getD_set_self {α : Type} (xs : List α) (j : Nat) (y d : α) (h : j < xs.length) : (xs.set j y).getD j d = y := by simp [List.getD, h]
theorem intMarks_len (k : Int) (n : Nat) : (intMarks k n).length = n := by simp [intMarks]
theorem noteMarks_len (k : Int) (n : Nat) : (noteMarks k n).length = n := by simp [noteMarks]
theorem intMarks_get (k : Int) {n j : Nat} (h : j < n) : (intMarks k n).getD j 0 = k + j := by simp [intMarks, List.getD, h]
theorem noteMarks_get (k : Int) {n j : Nat} (h : j < n) : (noteMarks k n).getD j ⟨0, 0⟩ = ⟨k + 2 * j, k + 2 * j + 1⟩ := by simp [noteMarks, List.getD, h]
def take1 : List AVal → List Nat
  | .sub m _ _ _ :: _ => [m]
  | _ => []
def spMarkIntS : Spec := ⟨take1, fun args objs K => match args, objs with
  | [.sub 0 1 0 n, .v (.int .i64 k)], [.row .int xs] => (n = xs.length ∧ xs.length ≤ 1099511627776 ∧ 0 ≤ k ∧ k ≤ 1099511627776) ∧ K (.v (.int .i64 (k + xs.length))) [(0, .row .int (intMarks k xs.length))] 1
  | _, _ => False⟩
theorem spMarkIntS_t {a : List AVal} : spMarkIntS.take a = take1 a := id rfl
theorem spMarkIntS_f {n} {k} {xs} {K : AVal → Hp → Nat → Prop} : Spec.f spMarkIntS ([.sub 0 1 0 n, .v (.int .i64 k)]) ([.row .int xs]) K = ((n = xs.length ∧ xs.length ≤ 1099511627776 ∧ 0 ≤ k ∧ k ≤ 1099511627776) ∧ K (.v (.int .i64 (k + xs.length))) [(0, .row .int (intMarks k xs.length))] 1) := id rfl
theorem valid59 : Valid Try.prog 59 spMarkIntS := by
  refine validI (Γ := lk []) Try.func59 bod59 low59 res59 (good_of trivial) ?_
  intro E args objs K h hE hG hP
  simp only [spMarkIntS] at h
  split at h
  · refine ⟨by simp [Try.ntmps59], ?_⟩
    rename_i n k xs
    obtain ⟨⟨rfl, hlen, hk0, hk1⟩, h⟩ := h
    simp only [go_sem, hG, hP, Nat.reduceEqDiff, ↓reduceIte, reduceCtorEq, Nat.reduceAdd, Nat.reduceSub, Nat.reduceMul, Nat.reduceLT, Nat.reduceLeDiff, Int.reduceAdd, Int.reduceSub, Int.reduceMul, Int.reduceLT, Int.reduceLE, Int.reduceEq, Int.reduceNeg, Int.reduceNe, Int.reduceGE, Int.reduceGT, Nat.reduceBEq, Int.reduceToNat]
    refine loopI hE (fun p : Nat × List Int => ⟨[(0, .sub 0 1 0 xs.length), (1, .v (.int .i64 (k + (p.1 : Int)))), (5, .v (.int .i64 p.1))], [(0, .row .int p.2)], 1, Try.f59.ntmps⟩) (fun p => p.1 ≤ xs.length ∧ p.2.length = xs.length ∧ p.2.take p.1 = (intMarks k xs.length).take p.1) (fun p => xs.length - p.1) ⟨(0, xs), ⟨Nat.zero_le _, rfl, rfl⟩, SubS.weak ?_⟩ ?_
    · simp only [go_sem, hG, hP, Nat.reduceEqDiff, ↓reduceIte, reduceCtorEq, Nat.reduceAdd, Nat.reduceSub, Nat.reduceMul, Nat.reduceLT, Nat.reduceLeDiff, Int.reduceAdd, Int.reduceSub, Int.reduceMul, Int.reduceLT, Int.reduceLE, Int.reduceEq, Int.reduceNeg, Int.reduceNe, Int.reduceGE, Int.reduceGT, Nat.reduceBEq, Int.reduceToNat]
      repeat' (first | with_reducible rfl | (refine And.intro ?_ ?_) | (refine congrArg (Value.int _) ?_; omega) | omega)
    · rintro ⟨j, ys⟩ ⟨hj, hl, hpre⟩
      dsimp only at hj hl hpre ⊢
      simp only [go_sem, hG, hP, Nat.reduceEqDiff, ↓reduceIte, reduceCtorEq, Nat.reduceAdd, Nat.reduceSub, Nat.reduceMul, Nat.reduceLT, Nat.reduceLeDiff, Int.reduceAdd, Int.reduceSub, Int.reduceMul, Int.reduceLT, Int.reduceLE, Int.reduceEq, Int.reduceNeg, Int.reduceNe, Int.reduceGE, Int.reduceGT, Nat.reduceBEq, Int.reduceToNat]
      (try simp (disch := omega) only [wrap_id])
      refine ⟨fun hlt => ?_, fun hge => ⟨_, _, _, ?_, h⟩⟩
      · repeat (refine And.intro (by first | omega | (simp; done) | (simp; omega) | (unfold appRoom; omega)) ?_)
        refine ⟨(j + 1, ys.set j (k + j)), ⟨⟨by dsimp only; omega, by rw [List.length_set]; exact hl, set_step (0 : Int) hpre (by omega) (by rw [intMarks_len]; omega) (intMarks_get k (by omega)).symm⟩, by dsimp only; omega⟩, SubS.weak ?_⟩
        simp only [go_sem, hG, hP, Nat.reduceEqDiff, ↓reduceIte, reduceCtorEq, Nat.reduceAdd, Nat.reduceSub, Nat.reduceMul, Nat.reduceLT, Nat.reduceLeDiff, Int.reduceAdd, Int.reduceSub, Int.reduceMul, Int.reduceLT, Int.reduceLE, Int.reduceEq, Int.reduceNeg, Int.reduceNe, Int.reduceGE, Int.reduceGT, Nat.reduceBEq, Int.reduceToNat]
        repeat' (first | with_reducible rfl | (refine And.intro ?_ ?_) | (refine congrArg (Value.int _) ?_; omega) | omega)
      · simp only [go_sem, hG, hP, Nat.reduceEqDiff, ↓reduceIte, reduceCtorEq, Nat.reduceAdd, Nat.reduceSub, Nat.reduceMul, Nat.reduceLT, Nat.reduceLeDiff, Int.reduceAdd, Int.reduceSub, Int.reduceMul, Int.reduceLT, Int.reduceLE, Int.reduceEq, Int.reduceNeg, Int.reduceNe, Int.reduceGE, Int.reduceGT, Nat.reduceBEq, Int.reduceToNat]
        have hj' : j = xs.length := by omega
        subst hj'
        rw [take_all hpre (by rw [hl, intMarks_len]) (by omega)]
        repeat' (first | with_reducible rfl | (refine And.intro ?_ ?_) | (refine congrArg (Value.int _) ?_; omega) | omega)
  · exact h.elim
def spMarkNoteS : Spec := ⟨take1, fun args objs K => match args, objs with
  | [.sub 0 2 0 n, .v (.int .i64 k)], [.row .note xs] => (n = xs.length ∧ xs.length ≤ 1099511627776 ∧ 0 ≤ k ∧ k ≤ 1099511627776) ∧ K (.v (.int .i64 (k + 2 * xs.length))) [(0, .row .note (noteMarks k xs.length))] 1
  | _, _ => False⟩
theorem spMarkNoteS_t {a : List AVal} : spMarkNoteS.take a = take1 a := id rfl
theorem spMarkNoteS_f {n} {k} {xs} {K : AVal → Hp → Nat → Prop} : Spec.f spMarkNoteS ([.sub 0 2 0 n, .v (.int .i64 k)]) ([.row .note xs]) K = ((n = xs.length ∧ xs.length ≤ 1099511627776 ∧ 0 ≤ k ∧ k ≤ 1099511627776) ∧ K (.v (.int .i64 (k + 2 * xs.length))) [(0, .row .note (noteMarks k xs.length))] 1) := id rfl
theorem valid60 : Valid Try.prog 60 spMarkNoteS := by
  refine validI (Γ := lk []) Try.func60 bod60 low60 res60 (good_of trivial) ?_
  intro E args objs K h hE hG hP
  simp only [spMarkNoteS] at h
  split at h
  · refine ⟨by simp [Try.ntmps60], ?_⟩
    rename_i n k xs
    obtain ⟨⟨rfl, hlen, hk0, hk1⟩, h⟩ := h
    simp only [go_sem, hG, hP, Nat.reduceEqDiff, ↓reduceIte, reduceCtorEq, Nat.reduceAdd, Nat.reduceSub, Nat.reduceMul, Nat.reduceLT, Nat.reduceLeDiff, Int.reduceAdd, Int.reduceSub, Int.reduceMul, Int.reduceLT, Int.reduceLE, Int.reduceEq, Int.reduceNeg, Int.reduceNe, Int.reduceGE, Int.reduceGT, Nat.reduceBEq, Int.reduceToNat]
    refine loopI hE (fun p : Nat × List Note => ⟨[(0, .sub 0 2 0 xs.length), (1, .v (.int .i64 (k + 2 * (p.1 : Int)))), (5, .v (.int .i64 p.1))], [(0, .row .note p.2)], 1, Try.f60.ntmps⟩) (fun p => p.1 ≤ xs.length ∧ p.2.length = xs.length ∧ p.2.take p.1 = (noteMarks k xs.length).take p.1) (fun p => xs.length - p.1) ⟨(0, xs), ⟨Nat.zero_le _, rfl, rfl⟩, SubS.weak ?_⟩ ?_
    · simp only [go_sem, hG, hP, Nat.reduceEqDiff, ↓reduceIte, reduceCtorEq, Nat.reduceAdd, Nat.reduceSub, Nat.reduceMul, Nat.reduceLT, Nat.reduceLeDiff, Int.reduceAdd, Int.reduceSub, Int.reduceMul, Int.reduceLT, Int.reduceLE, Int.reduceEq, Int.reduceNeg, Int.reduceNe, Int.reduceGE, Int.reduceGT, Nat.reduceBEq, Int.reduceToNat]
      repeat' (first | with_reducible rfl | (refine And.intro ?_ ?_) | (refine congrArg (Value.int _) ?_; omega) | omega)
    · rintro ⟨j, ys⟩ ⟨hj, hl, hpre⟩
      dsimp only at hj hl hpre ⊢
      simp only [go_sem, hG, hP, Nat.reduceEqDiff, ↓reduceIte, reduceCtorEq, Nat.reduceAdd, Nat.reduceSub, Nat.reduceMul, Nat.reduceLT, Nat.reduceLeDiff, Int.reduceAdd, Int.reduceSub, Int.reduceMul, Int.reduceLT, Int.reduceLE, Int.reduceEq, Int.reduceNeg, Int.reduceNe, Int.reduceGE, Int.reduceGT, Nat.reduceBEq, Int.reduceToNat]
      (try simp (disch := omega) only [wrap_id])
      refine ⟨fun hlt => ?_, fun hge => ⟨_, _, _, ?_, h⟩⟩
      · repeat (refine And.intro (by first | omega | (simp; done) | (simp; omega) | (unfold appRoom; omega)) ?_)
        rw [getD_set_self _ _ _ _ (by omega)]
        refine ⟨(j + 1, (ys.set j ⟨k + 2 * (j : Int), (ys.getD j ⟨0, 0⟩).circuit⟩).set j ⟨k + 2 * (j : Int), k + 2 * (j : Int) + 1⟩), ⟨⟨by dsimp only; omega, by rw [List.length_set, List.length_set]; exact hl, set_step2 (⟨0, 0⟩ : Note) hpre (by omega) (by rw [noteMarks_len]; omega) (noteMarks_get k (by omega)).symm⟩, by dsimp only; omega⟩, SubS.weak ?_⟩
        simp only [go_sem, hG, hP, Nat.reduceEqDiff, ↓reduceIte, reduceCtorEq, Nat.reduceAdd, Nat.reduceSub, Nat.reduceMul, Nat.reduceLT, Nat.reduceLeDiff, Int.reduceAdd, Int.reduceSub, Int.reduceMul, Int.reduceLT, Int.reduceLE, Int.reduceEq, Int.reduceNeg, Int.reduceNe, Int.reduceGE, Int.reduceGT, Nat.reduceBEq, Int.reduceToNat]
        repeat' (first | with_reducible rfl | (refine And.intro ?_ ?_) | (refine congrArg (Value.int _) ?_; omega) | omega)
      · simp only [go_sem, hG, hP, Nat.reduceEqDiff, ↓reduceIte, reduceCtorEq, Nat.reduceAdd, Nat.reduceSub, Nat.reduceMul, Nat.reduceLT, Nat.reduceLeDiff, Int.reduceAdd, Int.reduceSub, Int.reduceMul, Int.reduceLT, Int.reduceLE, Int.reduceEq, Int.reduceNeg, Int.reduceNe, Int.reduceGE, Int.reduceGT, Nat.reduceBEq, Int.reduceToNat]
        have hj' : j = xs.length := by omega
        subst hj'
        rw [take_all hpre (by rw [hl, noteMarks_len]) (by omega)]
        repeat' (first | with_reducible rfl | (refine And.intro ?_ ?_) | (refine congrArg (Value.int _) ?_; omega) | omega)
  · exact h.elim
def heldI (xs : List Int) (k : Int) : Int := if xs = intMarks k xs.length then k + xs.length else -1
def heldN (xs : List Note) (k : Int) : Int := if xs = noteMarks k xs.length then k + 2 * xs.length else -1
theorem heldI_neg {xs : List Int} {k : Int} (h0 : 0 ≤ k) (h : heldI xs k < 0) : heldI xs k = -1 := by
  unfold heldI at h ⊢; split at h <;> rename_i h2
  · omega
  · rw [if_neg h2]
theorem heldN_neg {xs : List Note} {k : Int} (h0 : 0 ≤ k) (h : heldN xs k < 0) : heldN xs k = -1 := by
  unfold heldN at h ⊢; split at h <;> rename_i h2
  · omega
  · rw [if_neg h2]
theorem heldI_bd {xs : List Int} {k : Int} (h0 : 0 ≤ k) : heldI xs k ≤ k + xs.length := by
  unfold heldI; split <;> omega
theorem heldN_bd {xs : List Note} {k : Int} (h0 : 0 ≤ k) : heldN xs k ≤ k + 2 * xs.length := by
  unfold heldN; split <;> omega
def spHeldIntS : Spec := ⟨fun _ => [], fun args objs K => match args, objs with
  | [.rs .int xs, .v (.int .i64 k)], [] => (xs.length ≤ 1099511627776 ∧ 0 ≤ k ∧ k ≤ 1099511627776) ∧ K (.v (.int .i64 (heldI xs k))) [] 0
  | _, _ => False⟩
theorem spHeldIntS_t {a : List AVal} : spHeldIntS.take a = [] := id rfl
theorem spHeldIntS_f {xs} {k} {K : AVal → Hp → Nat → Prop} : Spec.f spHeldIntS ([.rs .int xs, .v (.int .i64 k)]) ([]) K = ((xs.length ≤ 1099511627776 ∧ 0 ≤ k ∧ k ≤ 1099511627776) ∧ K (.v (.int .i64 (heldI xs k))) [] 0) := id rfl
theorem valid61 : Valid Try.prog 61 spHeldIntS := by
  refine validI (Γ := lk []) Try.func61 bod61 low61 res61 (good_of trivial) ?_
  intro E args objs K h hE hG hP
  simp only [spHeldIntS, heldI] at h
  split at h
  · refine ⟨by simp [Try.ntmps61], ?_⟩
    rename_i xs k
    obtain ⟨⟨hlen, hk0, hk1⟩, h⟩ := h
    simp only [go_sem, hG, hP, Nat.reduceEqDiff, ↓reduceIte, reduceCtorEq, Nat.reduceAdd, Nat.reduceSub, Nat.reduceMul, Nat.reduceLT, Nat.reduceLeDiff, Int.reduceAdd, Int.reduceSub, Int.reduceMul, Int.reduceLT, Int.reduceLE, Int.reduceEq, Int.reduceNeg, Int.reduceNe, Int.reduceGE, Int.reduceGT, Nat.reduceBEq, Int.reduceToNat]
    refine loopI hE (fun j : Nat => ⟨[(0, .rs .int xs), (1, .v (.int .i64 (k + (j : Int)))), (5, .v (.int .i64 j))], [], 0, Try.f61.ntmps⟩) (fun j => j ≤ xs.length ∧ xs.take j = (intMarks k xs.length).take j) (fun j => xs.length - j) ⟨0, ⟨Nat.zero_le _, rfl⟩, SubS.weak ?_⟩ ?_
    · simp only [go_sem, hG, hP, Nat.reduceEqDiff, ↓reduceIte, reduceCtorEq, Nat.reduceAdd, Nat.reduceSub, Nat.reduceMul, Nat.reduceLT, Nat.reduceLeDiff, Int.reduceAdd, Int.reduceSub, Int.reduceMul, Int.reduceLT, Int.reduceLE, Int.reduceEq, Int.reduceNeg, Int.reduceNe, Int.reduceGE, Int.reduceGT, Nat.reduceBEq, Int.reduceToNat]
      repeat' (first | with_reducible rfl | (refine And.intro ?_ ?_) | (refine congrArg (Value.int _) ?_; omega) | omega)
    · intro j ⟨hj, hpre⟩
      simp only [go_sem, hG, hP, Nat.reduceEqDiff, ↓reduceIte, reduceCtorEq, Nat.reduceAdd, Nat.reduceSub, Nat.reduceMul, Nat.reduceLT, Nat.reduceLeDiff, Int.reduceAdd, Int.reduceSub, Int.reduceMul, Int.reduceLT, Int.reduceLE, Int.reduceEq, Int.reduceNeg, Int.reduceNe, Int.reduceGE, Int.reduceGT, Nat.reduceBEq, Int.reduceToNat]
      (try simp (disch := omega) only [wrap_id])
      refine ⟨fun hlt => ?_, fun hge => ⟨_, _, _, ?_, h⟩⟩
      · repeat (refine And.intro (by first | omega | (simp; done) | (simp; omega) | (unfold appRoom; omega)) ?_)
        refine ⟨fun hne => ⟨_, _, _, ?_, h⟩, fun heq => ?_⟩
        · simp only [go_sem, hG, hP, Nat.reduceEqDiff, ↓reduceIte, reduceCtorEq, Nat.reduceAdd, Nat.reduceSub, Nat.reduceMul, Nat.reduceLT, Nat.reduceLeDiff, Int.reduceAdd, Int.reduceSub, Int.reduceMul, Int.reduceLT, Int.reduceLE, Int.reduceEq, Int.reduceNeg, Int.reduceNe, Int.reduceGE, Int.reduceGT, Nat.reduceBEq, Int.reduceToNat]
          rw [if_neg fun e => hne ((congrArg (fun l => l.getD j (0 : Int)) e).trans (intMarks_get k (by omega)))]
        · refine ⟨j + 1, ⟨⟨by omega, ?_⟩, by omega⟩, SubS.weak ?_⟩
          · exact take_step (0 : Int) hpre (by omega) (by rw [intMarks_len]; omega) ((Decidable.not_not.1 heq).trans (intMarks_get k (by omega)).symm)
          · simp only [go_sem, hG, hP, Nat.reduceEqDiff, ↓reduceIte, reduceCtorEq, Nat.reduceAdd, Nat.reduceSub, Nat.reduceMul, Nat.reduceLT, Nat.reduceLeDiff, Int.reduceAdd, Int.reduceSub, Int.reduceMul, Int.reduceLT, Int.reduceLE, Int.reduceEq, Int.reduceNeg, Int.reduceNe, Int.reduceGE, Int.reduceGT, Nat.reduceBEq, Int.reduceToNat]
            repeat' (first | with_reducible rfl | (refine And.intro ?_ ?_) | (refine congrArg (Value.int _) ?_; omega) | omega)
      · simp only [go_sem, hG, hP, Nat.reduceEqDiff, ↓reduceIte, reduceCtorEq, Nat.reduceAdd, Nat.reduceSub, Nat.reduceMul, Nat.reduceLT, Nat.reduceLeDiff, Int.reduceAdd, Int.reduceSub, Int.reduceMul, Int.reduceLT, Int.reduceLE, Int.reduceEq, Int.reduceNeg, Int.reduceNe, Int.reduceGE, Int.reduceGT, Nat.reduceBEq, Int.reduceToNat]
        have hj' : j = xs.length := by omega
        have e : xs = intMarks k xs.length := take_all hpre (by rw [intMarks_len]) (by omega)
        rw [if_pos e, hj']
  · exact h.elim
def spHeldNoteS : Spec := ⟨fun _ => [], fun args objs K => match args, objs with
  | [.rs .note xs, .v (.int .i64 k)], [] => (xs.length ≤ 1099511627776 ∧ 0 ≤ k ∧ k ≤ 1099511627776) ∧ K (.v (.int .i64 (heldN xs k))) [] 0
  | _, _ => False⟩
theorem spHeldNoteS_t {a : List AVal} : spHeldNoteS.take a = [] := id rfl
theorem spHeldNoteS_f {xs} {k} {K : AVal → Hp → Nat → Prop} : Spec.f spHeldNoteS ([.rs .note xs, .v (.int .i64 k)]) ([]) K = ((xs.length ≤ 1099511627776 ∧ 0 ≤ k ∧ k ≤ 1099511627776) ∧ K (.v (.int .i64 (heldN xs k))) [] 0) := id rfl
theorem valid62 : Valid Try.prog 62 spHeldNoteS := by
  refine validI (Γ := lk []) Try.func62 bod62 low62 res62 (good_of trivial) ?_
  intro E args objs K h hE hG hP
  simp only [spHeldNoteS, heldN] at h
  split at h
  · refine ⟨by simp [Try.ntmps62], ?_⟩
    rename_i xs k
    obtain ⟨⟨hlen, hk0, hk1⟩, h⟩ := h
    simp only [go_sem, hG, hP, Nat.reduceEqDiff, ↓reduceIte, reduceCtorEq, Nat.reduceAdd, Nat.reduceSub, Nat.reduceMul, Nat.reduceLT, Nat.reduceLeDiff, Int.reduceAdd, Int.reduceSub, Int.reduceMul, Int.reduceLT, Int.reduceLE, Int.reduceEq, Int.reduceNeg, Int.reduceNe, Int.reduceGE, Int.reduceGT, Nat.reduceBEq, Int.reduceToNat]
    refine loopI hE (fun j : Nat => ⟨[(0, .rs .note xs), (1, .v (.int .i64 (k + 2 * (j : Int)))), (5, .v (.int .i64 j))], [], 0, Try.f62.ntmps⟩) (fun j => j ≤ xs.length ∧ xs.take j = (noteMarks k xs.length).take j) (fun j => xs.length - j) ⟨0, ⟨Nat.zero_le _, rfl⟩, SubS.weak ?_⟩ ?_
    · simp only [go_sem, hG, hP, Nat.reduceEqDiff, ↓reduceIte, reduceCtorEq, Nat.reduceAdd, Nat.reduceSub, Nat.reduceMul, Nat.reduceLT, Nat.reduceLeDiff, Int.reduceAdd, Int.reduceSub, Int.reduceMul, Int.reduceLT, Int.reduceLE, Int.reduceEq, Int.reduceNeg, Int.reduceNe, Int.reduceGE, Int.reduceGT, Nat.reduceBEq, Int.reduceToNat]
      repeat' (first | with_reducible rfl | (refine And.intro ?_ ?_) | (refine congrArg (Value.int _) ?_; omega) | omega)
    · intro j ⟨hj, hpre⟩
      simp only [go_sem, hG, hP, Nat.reduceEqDiff, ↓reduceIte, reduceCtorEq, Nat.reduceAdd, Nat.reduceSub, Nat.reduceMul, Nat.reduceLT, Nat.reduceLeDiff, Int.reduceAdd, Int.reduceSub, Int.reduceMul, Int.reduceLT, Int.reduceLE, Int.reduceEq, Int.reduceNeg, Int.reduceNe, Int.reduceGE, Int.reduceGT, Nat.reduceBEq, Int.reduceToNat]
      (try simp (disch := omega) only [wrap_id])
      refine ⟨fun hlt => ?_, fun hge => ⟨_, _, _, ?_, h⟩⟩
      · repeat (refine And.intro (by first | omega | (simp; done) | (simp; omega) | (unfold appRoom; omega)) ?_)
        refine ⟨fun hne => ⟨_, _, _, ?_, h⟩, fun heq => ?_⟩
        · simp only [go_sem, hG, hP, Nat.reduceEqDiff, ↓reduceIte, reduceCtorEq, Nat.reduceAdd, Nat.reduceSub, Nat.reduceMul, Nat.reduceLT, Nat.reduceLeDiff, Int.reduceAdd, Int.reduceSub, Int.reduceMul, Int.reduceLT, Int.reduceLE, Int.reduceEq, Int.reduceNeg, Int.reduceNe, Int.reduceGE, Int.reduceGT, Nat.reduceBEq, Int.reduceToNat]
          rw [if_neg fun e => hne (by have e2 : xs.getD j ⟨0, 0⟩ = _ := (congrArg (fun l => l.getD j (⟨0, 0⟩ : Note)) e).trans (noteMarks_get k (by omega)); rw [e2])]
        · repeat (refine And.intro (by first | omega | (simp; done) | (simp; omega) | (unfold appRoom; omega)) ?_)
          refine ⟨fun hne => ⟨_, _, _, ?_, h⟩, fun heq2 => ?_⟩
          · simp only [go_sem, hG, hP, Nat.reduceEqDiff, ↓reduceIte, reduceCtorEq, Nat.reduceAdd, Nat.reduceSub, Nat.reduceMul, Nat.reduceLT, Nat.reduceLeDiff, Int.reduceAdd, Int.reduceSub, Int.reduceMul, Int.reduceLT, Int.reduceLE, Int.reduceEq, Int.reduceNeg, Int.reduceNe, Int.reduceGE, Int.reduceGT, Nat.reduceBEq, Int.reduceToNat]
            rw [if_neg fun e => hne (by have e2 : xs.getD j ⟨0, 0⟩ = _ := (congrArg (fun l => l.getD j (⟨0, 0⟩ : Note)) e).trans (noteMarks_get k (by omega)); rw [e2])]
          · refine ⟨j + 1, ⟨⟨by omega, ?_⟩, by omega⟩, SubS.weak ?_⟩
            · refine take_step (⟨0, 0⟩ : Note) hpre (by omega) (by rw [noteMarks_len]; omega) (note_ext ?_ ?_)
              · rw [Decidable.not_not.1 heq, noteMarks_get k (by omega)]
              · rw [Decidable.not_not.1 heq2, noteMarks_get k (by omega)]
            · simp only [go_sem, hG, hP, Nat.reduceEqDiff, ↓reduceIte, reduceCtorEq, Nat.reduceAdd, Nat.reduceSub, Nat.reduceMul, Nat.reduceLT, Nat.reduceLeDiff, Int.reduceAdd, Int.reduceSub, Int.reduceMul, Int.reduceLT, Int.reduceLE, Int.reduceEq, Int.reduceNeg, Int.reduceNe, Int.reduceGE, Int.reduceGT, Nat.reduceBEq, Int.reduceToNat]
              repeat' (first | with_reducible rfl | (refine And.intro ?_ ?_) | (refine congrArg (Value.int _) ?_; omega) | omega)
      · simp only [go_sem, hG, hP, Nat.reduceEqDiff, ↓reduceIte, reduceCtorEq, Nat.reduceAdd, Nat.reduceSub, Nat.reduceMul, Nat.reduceLT, Nat.reduceLeDiff, Int.reduceAdd, Int.reduceSub, Int.reduceMul, Int.reduceLT, Int.reduceLE, Int.reduceEq, Int.reduceNeg, Int.reduceNe, Int.reduceGE, Int.reduceGT, Nat.reduceBEq, Int.reduceToNat]
        have hj' : j = xs.length := by omega
        have e : xs = noteMarks k xs.length := take_all hpre (by rw [noteMarks_len]) (by omega)
        rw [if_pos e, hj']
  · exact h.elim
end Go.Proofs.YtfgefmkcmkihhaaE

/-! The code of a function, in the engine's words. -/
namespace Go.Proofs.YtfgefmkcmkihhaaE
open Go Go.RowKit
@[reducible] def ic27 : IC := (.seq (.ops [⟨some 2, .box (.tmp 0), none⟩, ⟨some 4, .mov (.const (.int .i64 0)), none⟩]) (.seq (.seq (.ops [⟨some 5, .mov (.const (.int .i64 0)), none⟩]) (.block 0 (.loop (.seq (.seq (.ops [⟨some 6, .mov (.tmp 5), none⟩, ⟨some 7, .bin .lss (.tmp 6) (.const (.int .i64 2)), none⟩]) (.cond (.tmp 7) .skip (.exit 0))) (.seq (.block 1 (.seq (.ops [⟨some 10, .mov (.tmp 5), none⟩, ⟨some 11, .iarr 1 2 (.tmp 2) (.tmp 10), none⟩, ⟨some 12, .load 1 false (.tmp 11), none⟩, ⟨some 13, .mov (.tmp 1), none⟩, ⟨some 14, .call 51 [(.tmp 12), (.tmp 13)], none⟩, ⟨some 1, .mov (.tmp 14), none⟩]) (.seq (.ops [⟨some 15, .mov (.tmp 1), none⟩, ⟨some 16, .bin .lss (.tmp 15) (.const (.int .i64 0)), none⟩]) (.cond (.tmp 16) (.seq (.ops [⟨some 4, .mov (.const (.int .i64 (-1))), none⟩]) .ret) .skip)))) (.ops [⟨some 8, .mov (.tmp 5), none⟩, ⟨some 9, .bin .add (.tmp 8) (.const (.int .i64 1)), none⟩, ⟨some 5, .mov (.tmp 9), none⟩])))))) (.seq (.ops [⟨some 17, .mov (.tmp 1), none⟩, ⟨some 4, .mov (.tmp 17), none⟩]) .ret)))
@[reducible] def rv27 : List RV := [.tmp 4]
theorem low27 : lowC Try.prog tau Try.f27.ntmps (Try.f27.body.getD .skip) = some (erase ic27) := by kernel_rfl
theorem res27 : lowR Try.prog Try.f27.results.toList = some rv27 := by kernel_rfl
theorem bod27 : Try.f27.body = some (Try.f27.body.getD .skip) := by kernel_rfl
theorem cal27 : callable Try.prog 27 = true := by kernel_rfl

end Go.Proofs.YtfgefmkcmkihhaaE

/-! The code of a function, in the engine's words. -/
namespace Go.Proofs.YtfgefmkcmkihhaaE
open Go Go.RowKit
@[reducible] def ic28 : IC := (.seq (.ops [⟨some 2, .box (.tmp 0), none⟩, ⟨some 4, .mov (.const (.int .i64 0)), none⟩]) (.seq (.seq (.ops [⟨some 5, .mov (.const (.int .i64 0)), none⟩]) (.block 0 (.loop (.seq (.seq (.ops [⟨some 6, .mov (.tmp 5), none⟩, ⟨some 7, .bin .lss (.tmp 6) (.const (.int .i64 2)), none⟩]) (.cond (.tmp 7) .skip (.exit 0))) (.seq (.block 1 (.seq (.ops [⟨some 10, .mov (.tmp 5), none⟩, ⟨some 11, .iarr 1 2 (.tmp 2) (.tmp 10), none⟩, ⟨some 12, .load 1 false (.tmp 11), none⟩, ⟨some 13, .mov (.tmp 1), none⟩, ⟨some 14, .call 52 [(.tmp 12), (.tmp 13)], none⟩, ⟨some 1, .mov (.tmp 14), none⟩]) (.seq (.ops [⟨some 15, .mov (.tmp 1), none⟩, ⟨some 16, .bin .lss (.tmp 15) (.const (.int .i64 0)), none⟩]) (.cond (.tmp 16) (.seq (.ops [⟨some 4, .mov (.const (.int .i64 (-1))), none⟩]) .ret) .skip)))) (.ops [⟨some 8, .mov (.tmp 5), none⟩, ⟨some 9, .bin .add (.tmp 8) (.const (.int .i64 1)), none⟩, ⟨some 5, .mov (.tmp 9), none⟩])))))) (.seq (.ops [⟨some 17, .mov (.tmp 1), none⟩, ⟨some 4, .mov (.tmp 17), none⟩]) .ret)))
@[reducible] def rv28 : List RV := [.tmp 4]
theorem low28 : lowC Try.prog tau Try.f28.ntmps (Try.f28.body.getD .skip) = some (erase ic28) := by kernel_rfl
theorem res28 : lowR Try.prog Try.f28.results.toList = some rv28 := by kernel_rfl
theorem bod28 : Try.f28.body = some (Try.f28.body.getD .skip) := by kernel_rfl
theorem cal28 : callable Try.prog 28 = true := by kernel_rfl

end Go.Proofs.YtfgefmkcmkihhaaE

/-! The code of a function, in the engine's words. -/
namespace Go.Proofs.YtfgefmkcmkihhaaE
open Go Go.RowKit
@[reducible] def ic8 : IC := (.seq (.ops [⟨some 2, .box (.tmp 0), none⟩, ⟨some 4, .mov (.const (.int .i64 0)), none⟩]) (.seq (.ops [⟨some 5, .fadr 0 (.tmp 2), none⟩, ⟨some 6, .load 2 true (.tmp 5), none⟩, ⟨some 7, .mov (.tmp 1), none⟩, ⟨some 8, .call 27 [(.tmp 6), (.tmp 7)], none⟩, ⟨some 1, .mov (.tmp 8), none⟩]) (.seq (.seq (.ops [⟨some 9, .mov (.tmp 1), none⟩, ⟨some 10, .bin .lss (.tmp 9) (.const (.int .i64 0)), none⟩]) (.cond (.tmp 10) (.seq (.ops [⟨some 4, .mov (.const (.int .i64 (-1))), none⟩]) .ret) .skip)) (.seq (.ops [⟨some 11, .fadr 4 (.tmp 2), none⟩, ⟨some 12, .load 2 true (.tmp 11), none⟩, ⟨some 13, .mov (.tmp 1), none⟩, ⟨some 14, .call 28 [(.tmp 12), (.tmp 13)], none⟩, ⟨some 1, .mov (.tmp 14), none⟩]) (.seq (.seq (.ops [⟨some 15, .mov (.tmp 1), none⟩, ⟨some 16, .bin .lss (.tmp 15) (.const (.int .i64 0)), none⟩]) (.cond (.tmp 16) (.seq (.ops [⟨some 4, .mov (.const (.int .i64 (-1))), none⟩]) .ret) .skip)) (.seq (.ops [⟨some 17, .mov (.tmp 1), none⟩, ⟨some 4, .mov (.tmp 17), none⟩]) .ret))))))
@[reducible] def rv8 : List RV := [.tmp 4]
theorem low8 : lowC Try.prog tau Try.f8.ntmps (Try.f8.body.getD .skip) = some (erase ic8) := by kernel_rfl
theorem res8 : lowR Try.prog Try.f8.results.toList = some rv8 := by kernel_rfl
theorem bod8 : Try.f8.body = some (Try.f8.body.getD .skip) := by kernel_rfl
theorem cal8 : callable Try.prog 8 = true := by kernel_rfl

end Go.Proofs.YtfgefmkcmkihhaaE

/-! Functions over two rows, and over a whole Trunk: how much they hold. -/
namespace Go.Proofs.YtfgefmkcmkihhaaE
open Go Go.RowKit
set_option linter.unusedSimpArgs false
set_option linter.unusedVariables false
set_option maxRecDepth 20000

def szTwo (a b : Nat) (n : Int) : Int := if szStep a n < 0 then -1 else szStep b (szStep a n)
def spSzInt2 : Spec := ⟨fun _ => [], fun args objs K => match args, objs with
  | [.agg [.rs .int xs, .rs .int ys], .v (.int .i64 n)], [] => (xs.length ≤ 17592186044416 ∧ ys.length ≤ 17592186044416 ∧ -1099511627776 ≤ n ∧ n ≤ 1099511627776) ∧ K (.v (.int .i64 (szTwo xs.length ys.length n))) [] 0
  | _, _ => False⟩
theorem spSzInt2_t {a : List AVal} : spSzInt2.take a = [] := id rfl
theorem spSzInt2_f {xs} {ys} {n} {K : AVal → Hp → Nat → Prop} : Spec.f spSzInt2 ([.agg [.rs .int xs, .rs .int ys], .v (.int .i64 n)]) ([]) K = ((xs.length ≤ 17592186044416 ∧ ys.length ≤ 17592186044416 ∧ -1099511627776 ≤ n ∧ n ≤ 1099511627776) ∧ K (.v (.int .i64 (szTwo xs.length ys.length n))) [] 0) := id rfl
theorem valid27 : Valid Try.prog 27 spSzInt2 := by
  refine validI (Γ := lk [(51, spSzIntS)]) Try.func27 bod27 low27 res27 (good_of ⟨⟨cal51, valid51⟩, trivial⟩) ?_
  intro E args objs K h hE hG hP
  simp only [spSzInt2] at h
  split at h
  · refine ⟨by simp [Try.ntmps27], ?_⟩
    rename_i xs ys n
    obtain ⟨⟨b1, b2, b3, b4⟩, h⟩ := h
    simp only [szTwo] at h
    have b5 := szStep_bd (l := xs.length) b3 b4
    simp only [go_sem, hG, hP, Nat.reduceEqDiff, ↓reduceIte, reduceCtorEq, Nat.reduceAdd, Nat.reduceSub, Nat.reduceMul, Nat.reduceLT, Nat.reduceLeDiff, Int.reduceAdd, Int.reduceSub, Int.reduceMul, Int.reduceLT, Int.reduceLE, Int.reduceEq, Int.reduceNeg, Int.reduceNe, Int.reduceGE, Int.reduceGT, Nat.reduceBEq, Int.reduceToNat]
    refine unrollI hE [(), (), ()] ?_
    simp only [go_sem, hG, hP, Nat.reduceEqDiff, ↓reduceIte, reduceCtorEq, Nat.reduceAdd, Nat.reduceSub, Nat.reduceMul, Nat.reduceLT, Nat.reduceLeDiff, Int.reduceAdd, Int.reduceSub, Int.reduceMul, Int.reduceLT, Int.reduceLE, Int.reduceEq, Int.reduceNeg, Int.reduceNe, Int.reduceGE, Int.reduceGT, Nat.reduceBEq, Int.reduceToNat,  spSzIntS_f, spSzIntS_t]
    refine ⟨⟨b1, b3, b4⟩, fun h1 => ⟨_, _, _, ?_, h⟩, fun h1 => ⟨⟨b2, b5.1, b5.2⟩, fun h2 => ⟨_, _, _, ?_, h⟩, fun h2 => ⟨_, _, _, ?_, h⟩⟩⟩
    · simp only [go_sem, hG, hP, Nat.reduceEqDiff, ↓reduceIte, reduceCtorEq, Nat.reduceAdd, Nat.reduceSub, Nat.reduceMul, Nat.reduceLT, Nat.reduceLeDiff, Int.reduceAdd, Int.reduceSub, Int.reduceMul, Int.reduceLT, Int.reduceLE, Int.reduceEq, Int.reduceNeg, Int.reduceNe, Int.reduceGE, Int.reduceGT, Nat.reduceBEq, Int.reduceToNat]
      rw [if_pos h1]
    · simp only [go_sem, hG, hP, Nat.reduceEqDiff, ↓reduceIte, reduceCtorEq, Nat.reduceAdd, Nat.reduceSub, Nat.reduceMul, Nat.reduceLT, Nat.reduceLeDiff, Int.reduceAdd, Int.reduceSub, Int.reduceMul, Int.reduceLT, Int.reduceLE, Int.reduceEq, Int.reduceNeg, Int.reduceNe, Int.reduceGE, Int.reduceGT, Nat.reduceBEq, Int.reduceToNat]
      rw [if_neg h1, szStep_neg h2]
    · simp only [go_sem, hG, hP, Nat.reduceEqDiff, ↓reduceIte, reduceCtorEq, Nat.reduceAdd, Nat.reduceSub, Nat.reduceMul, Nat.reduceLT, Nat.reduceLeDiff, Int.reduceAdd, Int.reduceSub, Int.reduceMul, Int.reduceLT, Int.reduceLE, Int.reduceEq, Int.reduceNeg, Int.reduceNe, Int.reduceGE, Int.reduceGT, Nat.reduceBEq, Int.reduceToNat]
      rw [if_neg h1]
  · exact h.elim
def spSzNote2 : Spec := ⟨fun _ => [], fun args objs K => match args, objs with
  | [.agg [.rs .note xs, .rs .note ys], .v (.int .i64 n)], [] => (xs.length ≤ 17592186044416 ∧ ys.length ≤ 17592186044416 ∧ -1099511627776 ≤ n ∧ n ≤ 1099511627776) ∧ K (.v (.int .i64 (szTwo xs.length ys.length n))) [] 0
  | _, _ => False⟩
theorem spSzNote2_t {a : List AVal} : spSzNote2.take a = [] := id rfl
theorem spSzNote2_f {xs} {ys} {n} {K : AVal → Hp → Nat → Prop} : Spec.f spSzNote2 ([.agg [.rs .note xs, .rs .note ys], .v (.int .i64 n)]) ([]) K = ((xs.length ≤ 17592186044416 ∧ ys.length ≤ 17592186044416 ∧ -1099511627776 ≤ n ∧ n ≤ 1099511627776) ∧ K (.v (.int .i64 (szTwo xs.length ys.length n))) [] 0) := id rfl
theorem valid28 : Valid Try.prog 28 spSzNote2 := by
  refine validI (Γ := lk [(52, spSzNoteS)]) Try.func28 bod28 low28 res28 (good_of ⟨⟨cal52, valid52⟩, trivial⟩) ?_
  intro E args objs K h hE hG hP
  simp only [spSzNote2] at h
  split at h
  · refine ⟨by simp [Try.ntmps28], ?_⟩
    rename_i xs ys n
    obtain ⟨⟨b1, b2, b3, b4⟩, h⟩ := h
    simp only [szTwo] at h
    have b5 := szStep_bd (l := xs.length) b3 b4
    simp only [go_sem, hG, hP, Nat.reduceEqDiff, ↓reduceIte, reduceCtorEq, Nat.reduceAdd, Nat.reduceSub, Nat.reduceMul, Nat.reduceLT, Nat.reduceLeDiff, Int.reduceAdd, Int.reduceSub, Int.reduceMul, Int.reduceLT, Int.reduceLE, Int.reduceEq, Int.reduceNeg, Int.reduceNe, Int.reduceGE, Int.reduceGT, Nat.reduceBEq, Int.reduceToNat]
    refine unrollI hE [(), (), ()] ?_
    simp only [go_sem, hG, hP, Nat.reduceEqDiff, ↓reduceIte, reduceCtorEq, Nat.reduceAdd, Nat.reduceSub, Nat.reduceMul, Nat.reduceLT, Nat.reduceLeDiff, Int.reduceAdd, Int.reduceSub, Int.reduceMul, Int.reduceLT, Int.reduceLE, Int.reduceEq, Int.reduceNeg, Int.reduceNe, Int.reduceGE, Int.reduceGT, Nat.reduceBEq, Int.reduceToNat,  spSzNoteS_f, spSzNoteS_t]
    refine ⟨⟨b1, b3, b4⟩, fun h1 => ⟨_, _, _, ?_, h⟩, fun h1 => ⟨⟨b2, b5.1, b5.2⟩, fun h2 => ⟨_, _, _, ?_, h⟩, fun h2 => ⟨_, _, _, ?_, h⟩⟩⟩
    · simp only [go_sem, hG, hP, Nat.reduceEqDiff, ↓reduceIte, reduceCtorEq, Nat.reduceAdd, Nat.reduceSub, Nat.reduceMul, Nat.reduceLT, Nat.reduceLeDiff, Int.reduceAdd, Int.reduceSub, Int.reduceMul, Int.reduceLT, Int.reduceLE, Int.reduceEq, Int.reduceNeg, Int.reduceNe, Int.reduceGE, Int.reduceGT, Nat.reduceBEq, Int.reduceToNat]
      rw [if_pos h1]
    · simp only [go_sem, hG, hP, Nat.reduceEqDiff, ↓reduceIte, reduceCtorEq, Nat.reduceAdd, Nat.reduceSub, Nat.reduceMul, Nat.reduceLT, Nat.reduceLeDiff, Int.reduceAdd, Int.reduceSub, Int.reduceMul, Int.reduceLT, Int.reduceLE, Int.reduceEq, Int.reduceNeg, Int.reduceNe, Int.reduceGE, Int.reduceGT, Nat.reduceBEq, Int.reduceToNat]
      rw [if_neg h1, szStep_neg h2]
    · simp only [go_sem, hG, hP, Nat.reduceEqDiff, ↓reduceIte, reduceCtorEq, Nat.reduceAdd, Nat.reduceSub, Nat.reduceMul, Nat.reduceLT, Nat.reduceLeDiff, Int.reduceAdd, Int.reduceSub, Int.reduceMul, Int.reduceLT, Int.reduceLE, Int.reduceEq, Int.reduceNeg, Int.reduceNe, Int.reduceGE, Int.reduceGT, Nat.reduceBEq, Int.reduceToNat]
      rw [if_neg h1]
  · exact h.elim
theorem szTwo_bd {a b : Nat} {n : Int} (h : -1099511627776 ≤ n) (h2 : n ≤ 1099511627776) : -1099511627776 ≤ szTwo a b n ∧ szTwo a b n ≤ 1099511627776 := by
  have b5 := szStep_bd (l := a) h h2
  have b6 := szStep_bd (l := b) b5.1 b5.2
  unfold szTwo; split <;> omega
theorem szTwo_neg {a b : Nat} {n : Int} (h : szTwo a b n < 0) : szTwo a b n = -1 := by
  unfold szTwo at h ⊢
  split at h
  · rename_i h2; rw [if_pos h2]
  · rename_i h2; rw [if_neg h2]; exact szStep_neg h
def szTr (a b c d : Nat) (n : Int) : Int := if szTwo a b n < 0 then -1 else szTwo c d (szTwo a b n)
def spSzTr : Spec := ⟨fun _ => [], fun args objs K => match args, objs with
  | [.agg [.rs .int c0, .rs .int c1, .v (.int .i64 x), .v (.int .i64 y), .rs .note q0, .rs .note q1], .v (.int .i64 n)], [] => (c0.length ≤ 17592186044416 ∧ c1.length ≤ 17592186044416 ∧ q0.length ≤ 17592186044416 ∧ q1.length ≤ 17592186044416 ∧ -1099511627776 ≤ n ∧ n ≤ 1099511627776) ∧ K (.v (.int .i64 (szTr c0.length c1.length q0.length q1.length n))) [] 0
  | _, _ => False⟩
theorem spSzTr_t {a : List AVal} : spSzTr.take a = [] := id rfl
theorem spSzTr_f {c0} {c1} {x} {y} {q0} {q1} {n} {K : AVal → Hp → Nat → Prop} : Spec.f spSzTr ([.agg [.rs .int c0, .rs .int c1, .v (.int .i64 x), .v (.int .i64 y), .rs .note q0, .rs .note q1], .v (.int .i64 n)]) ([]) K = ((c0.length ≤ 17592186044416 ∧ c1.length ≤ 17592186044416 ∧ q0.length ≤ 17592186044416 ∧ q1.length ≤ 17592186044416 ∧ -1099511627776 ≤ n ∧ n ≤ 1099511627776) ∧ K (.v (.int .i64 (szTr c0.length c1.length q0.length q1.length n))) [] 0) := id rfl
theorem valid8 : Valid Try.prog 8 spSzTr := by
  refine validI (Γ := lk [(27, spSzInt2), (28, spSzNote2)]) Try.func8 bod8 low8 res8 (good_of ⟨⟨cal27, valid27⟩, ⟨cal28, valid28⟩, trivial⟩) ?_
  intro E args objs K h hE hG hP
  simp only [spSzTr] at h
  split at h
  · refine ⟨by simp [Try.ntmps8], ?_⟩
    rename_i c0 c1 x y q0 q1 n
    obtain ⟨⟨b1, b2, b3, b4, b5, b6⟩, h⟩ := h
    simp only [szTr] at h
    have b7 := szTwo_bd (a := c0.length) (b := c1.length) b5 b6
    simp only [go_sem, hG, hP, Nat.reduceEqDiff, ↓reduceIte, reduceCtorEq, Nat.reduceAdd, Nat.reduceSub, Nat.reduceMul, Nat.reduceLT, Nat.reduceLeDiff, Int.reduceAdd, Int.reduceSub, Int.reduceMul, Int.reduceLT, Int.reduceLE, Int.reduceEq, Int.reduceNeg, Int.reduceNe, Int.reduceGE, Int.reduceGT, Nat.reduceBEq, Int.reduceToNat,  spSzInt2_f, spSzInt2_t, spSzNote2_f, spSzNote2_t]
    refine ⟨⟨b1, b2, b5, b6⟩, fun h1 => ⟨_, _, _, ?_, h⟩, fun h1 => ⟨⟨b3, b4, b7.1, b7.2⟩, fun h2 => ⟨_, _, _, ?_, h⟩, fun h2 => ⟨_, _, _, ?_, h⟩⟩⟩
    · simp only [go_sem, hG, hP, Nat.reduceEqDiff, ↓reduceIte, reduceCtorEq, Nat.reduceAdd, Nat.reduceSub, Nat.reduceMul, Nat.reduceLT, Nat.reduceLeDiff, Int.reduceAdd, Int.reduceSub, Int.reduceMul, Int.reduceLT, Int.reduceLE, Int.reduceEq, Int.reduceNeg, Int.reduceNe, Int.reduceGE, Int.reduceGT, Nat.reduceBEq, Int.reduceToNat]
      rw [if_pos h1]
    · simp only [go_sem, hG, hP, Nat.reduceEqDiff, ↓reduceIte, reduceCtorEq, Nat.reduceAdd, Nat.reduceSub, Nat.reduceMul, Nat.reduceLT, Nat.reduceLeDiff, Int.reduceAdd, Int.reduceSub, Int.reduceMul, Int.reduceLT, Int.reduceLE, Int.reduceEq, Int.reduceNeg, Int.reduceNe, Int.reduceGE, Int.reduceGT, Nat.reduceBEq, Int.reduceToNat]
      rw [if_neg h1, szTwo_neg h2]
    · simp only [go_sem, hG, hP, Nat.reduceEqDiff, ↓reduceIte, reduceCtorEq, Nat.reduceAdd, Nat.reduceSub, Nat.reduceMul, Nat.reduceLT, Nat.reduceLeDiff, Int.reduceAdd, Int.reduceSub, Int.reduceMul, Int.reduceLT, Int.reduceLE, Int.reduceEq, Int.reduceNeg, Int.reduceNe, Int.reduceGE, Int.reduceGT, Nat.reduceBEq, Int.reduceToNat]
      rw [if_neg h1]
  · exact h.elim
end Go.Proofs.YtfgefmkcmkihhaaE

/-! The code of a function, in the engine's words. -/
namespace Go.Proofs.YtfgefmkcmkihhaaE
open Go Go.RowKit
@[reducible] def ic32 : IC := (.seq (.ops [⟨some 1, .box (.tmp 0), none⟩, ⟨some 2, .new [(.slice none 0 0), (.slice none 0 0)], none⟩]) (.seq (.ops [⟨some 3, .new [(.slice none 0 0), (.slice none 0 0)], none⟩]) (.seq (.seq (.ops [⟨some 4, .mov (.const (.int .i64 0)), none⟩]) (.block 0 (.loop (.seq (.seq (.ops [⟨some 5, .mov (.tmp 4), none⟩, ⟨some 6, .bin .lss (.tmp 5) (.const (.int .i64 2)), none⟩]) (.cond (.tmp 6) .skip (.exit 0))) (.seq (.block 1 (.ops [⟨some 9, .mov (.tmp 4), none⟩, ⟨some 10, .mov (.tmp 4), none⟩, ⟨some 11, .iarr 1 2 (.tmp 1) (.tmp 10), none⟩, ⟨some 12, .load 1 false (.tmp 11), none⟩, ⟨some 13, .call 53 [(.tmp 12)], none⟩, ⟨some 14, .iarr 1 2 (.tmp 3) (.tmp 9), none⟩, ⟨none, .store 1 (.tmp 14) (.tmp 13), none⟩])) (.ops [⟨some 7, .mov (.tmp 4), none⟩, ⟨some 8, .bin .add (.tmp 7) (.const (.int .i64 1)), none⟩, ⟨some 4, .mov (.tmp 8), none⟩])))))) (.seq (.ops [⟨some 15, .load 2 true (.tmp 3), none⟩, ⟨none, .store 2 (.tmp 2) (.tmp 15), none⟩]) .ret))))
@[reducible] def rv32 : List RV := [.cell 2 2 true]
theorem low32 : lowC Try.prog tau Try.f32.ntmps (Try.f32.body.getD .skip) = some (erase ic32) := by kernel_rfl
theorem res32 : lowR Try.prog Try.f32.results.toList = some rv32 := by kernel_rfl
theorem bod32 : Try.f32.body = some (Try.f32.body.getD .skip) := by kernel_rfl
theorem cal32 : callable Try.prog 32 = true := by kernel_rfl

end Go.Proofs.YtfgefmkcmkihhaaE

/-! The code of a function, in the engine's words. -/
namespace Go.Proofs.YtfgefmkcmkihhaaE
open Go Go.RowKit
@[reducible] def ic33 : IC := (.seq (.ops [⟨some 1, .box (.tmp 0), none⟩, ⟨some 2, .new [(.int .i64 0), (.int .i64 0)], none⟩]) (.seq (.ops [⟨some 3, .new [(.int .i64 0), (.int .i64 0)], none⟩]) (.seq (.seq (.ops [⟨some 4, .mov (.const (.int .i64 0)), none⟩]) (.block 0 (.loop (.seq (.seq (.ops [⟨some 5, .mov (.tmp 4), none⟩, ⟨some 6, .bin .lss (.tmp 5) (.const (.int .i64 2)), none⟩]) (.cond (.tmp 6) .skip (.exit 0))) (.seq (.block 1 (.ops [⟨some 9, .mov (.tmp 4), none⟩, ⟨some 10, .mov (.tmp 4), none⟩, ⟨some 11, .iarr 1 2 (.tmp 1) (.tmp 10), none⟩, ⟨some 12, .load 1 false (.tmp 11), none⟩, ⟨some 13, .iarr 1 2 (.tmp 3) (.tmp 9), none⟩, ⟨none, .store 1 (.tmp 13) (.tmp 12), none⟩])) (.ops [⟨some 7, .mov (.tmp 4), none⟩, ⟨some 8, .bin .add (.tmp 7) (.const (.int .i64 1)), none⟩, ⟨some 4, .mov (.tmp 8), none⟩])))))) (.seq (.ops [⟨some 14, .load 2 true (.tmp 3), none⟩, ⟨none, .store 2 (.tmp 2) (.tmp 14), none⟩]) .ret))))
@[reducible] def rv33 : List RV := [.cell 2 2 true]
theorem low33 : lowC Try.prog tau Try.f33.ntmps (Try.f33.body.getD .skip) = some (erase ic33) := by kernel_rfl
theorem res33 : lowR Try.prog Try.f33.results.toList = some rv33 := by kernel_rfl
theorem bod33 : Try.f33.body = some (Try.f33.body.getD .skip) := by kernel_rfl
theorem cal33 : callable Try.prog 33 = true := by kernel_rfl

end Go.Proofs.YtfgefmkcmkihhaaE

/-! The code of a function, in the engine's words. -/
namespace Go.Proofs.YtfgefmkcmkihhaaE
open Go Go.RowKit
@[reducible] def ic34 : IC := (.seq (.ops [⟨some 1, .box (.tmp 0), none⟩, ⟨some 2, .new [(.slice none 0 0), (.slice none 0 0)], none⟩]) (.seq (.ops [⟨some 3, .new [(.slice none 0 0), (.slice none 0 0)], none⟩]) (.seq (.seq (.ops [⟨some 4, .mov (.const (.int .i64 0)), none⟩]) (.block 0 (.loop (.seq (.seq (.ops [⟨some 5, .mov (.tmp 4), none⟩, ⟨some 6, .bin .lss (.tmp 5) (.const (.int .i64 2)), none⟩]) (.cond (.tmp 6) .skip (.exit 0))) (.seq (.block 1 (.ops [⟨some 9, .mov (.tmp 4), none⟩, ⟨some 10, .mov (.tmp 4), none⟩, ⟨some 11, .iarr 1 2 (.tmp 1) (.tmp 10), none⟩, ⟨some 12, .load 1 false (.tmp 11), none⟩, ⟨some 13, .call 54 [(.tmp 12)], none⟩, ⟨some 14, .iarr 1 2 (.tmp 3) (.tmp 9), none⟩, ⟨none, .store 1 (.tmp 14) (.tmp 13), none⟩])) (.ops [⟨some 7, .mov (.tmp 4), none⟩, ⟨some 8, .bin .add (.tmp 7) (.const (.int .i64 1)), none⟩, ⟨some 4, .mov (.tmp 8), none⟩])))))) (.seq (.ops [⟨some 15, .load 2 true (.tmp 3), none⟩, ⟨none, .store 2 (.tmp 2) (.tmp 15), none⟩]) .ret))))
@[reducible] def rv34 : List RV := [.cell 2 2 true]
theorem low34 : lowC Try.prog tau Try.f34.ntmps (Try.f34.body.getD .skip) = some (erase ic34) := by kernel_rfl
theorem res34 : lowR Try.prog Try.f34.results.toList = some rv34 := by kernel_rfl
theorem bod34 : Try.f34.body = some (Try.f34.body.getD .skip) := by kernel_rfl
theorem cal34 : callable Try.prog 34 = true := by kernel_rfl

end Go.Proofs.YtfgefmkcmkihhaaE

/-! The code of a function, in the engine's words. -/
namespace Go.Proofs.YtfgefmkcmkihhaaE
open Go Go.RowKit
@[reducible] def ic10 : IC := (.seq (.ops [⟨some 1, .box (.tmp 0), none⟩, ⟨some 2, .new [(.slice none 0 0), (.slice none 0 0), (.int .i64 0), (.int .i64 0), (.slice none 0 0), (.slice none 0 0)], none⟩]) (.seq (.ops [⟨some 3, .new [(.slice none 0 0), (.slice none 0 0), (.int .i64 0), (.int .i64 0), (.slice none 0 0), (.slice none 0 0)], none⟩]) (.seq (.ops [⟨some 4, .fadr 0 (.tmp 1), none⟩, ⟨some 5, .load 2 true (.tmp 4), none⟩, ⟨some 6, .call 32 [(.tmp 5)], none⟩, ⟨some 7, .fadr 0 (.tmp 3), none⟩, ⟨none, .store 2 (.tmp 7) (.tmp 6), none⟩]) (.seq (.ops [⟨some 8, .fadr 2 (.tmp 1), none⟩, ⟨some 9, .load 2 true (.tmp 8), none⟩, ⟨some 10, .call 33 [(.tmp 9)], none⟩, ⟨some 11, .fadr 2 (.tmp 3), none⟩, ⟨none, .store 2 (.tmp 11) (.tmp 10), none⟩]) (.seq (.ops [⟨some 12, .fadr 4 (.tmp 1), none⟩, ⟨some 13, .load 2 true (.tmp 12), none⟩, ⟨some 14, .call 34 [(.tmp 13)], none⟩, ⟨some 15, .fadr 4 (.tmp 3), none⟩, ⟨none, .store 2 (.tmp 15) (.tmp 14), none⟩]) (.seq (.ops [⟨some 16, .load 6 true (.tmp 3), none⟩, ⟨none, .store 6 (.tmp 2) (.tmp 16), none⟩]) .ret))))))
@[reducible] def rv10 : List RV := [.cell 2 6 true]
theorem low10 : lowC Try.prog tau Try.f10.ntmps (Try.f10.body.getD .skip) = some (erase ic10) := by kernel_rfl
theorem res10 : lowR Try.prog Try.f10.results.toList = some rv10 := by kernel_rfl
theorem bod10 : Try.f10.body = some (Try.f10.body.getD .skip) := by kernel_rfl
theorem cal10 : callable Try.prog 10 = true := by kernel_rfl

end Go.Proofs.YtfgefmkcmkihhaaE

/-! A Trunk in its own rows. -/
namespace Go.Proofs.YtfgefmkcmkihhaaE
open Go Go.RowKit
set_option linter.unusedSimpArgs false
set_option linter.unusedVariables false
set_option maxRecDepth 20000

def spToInt2 : Spec := ⟨fun _ => [], fun args objs K => match args, objs with
  | [.agg [.rs .int xs, .rs .int ys]], [] => (xs.length ≤ 1099511627776 ∧ ys.length ≤ 1099511627776) ∧ K (.agg [.sub 0 1 0 xs.length, .sub 1 1 0 ys.length]) [(0, .row .int xs), (1, .row .int ys)] 2
  | _, _ => False⟩
theorem spToInt2_t {a : List AVal} : spToInt2.take a = [] := id rfl
theorem spToInt2_f {xs} {ys} {K : AVal → Hp → Nat → Prop} : Spec.f spToInt2 ([.agg [.rs .int xs, .rs .int ys]]) ([]) K = ((xs.length ≤ 1099511627776 ∧ ys.length ≤ 1099511627776) ∧ K (.agg [.sub 0 1 0 xs.length, .sub 1 1 0 ys.length]) [(0, .row .int xs), (1, .row .int ys)] 2) := id rfl
theorem valid32 : Valid Try.prog 32 spToInt2 := by
  refine validI (Γ := lk [(53, spToIntS)]) Try.func32 bod32 low32 res32 (good_of ⟨⟨cal53, valid53⟩, trivial⟩) ?_
  intro E args objs K h hE hG hP
  simp only [spToInt2] at h
  split at h
  · refine ⟨by simp [Try.ntmps32], ?_⟩
    rename_i xs ys
    obtain ⟨⟨b1, b2⟩, h⟩ := h
    simp only [go_sem, hG, hP, Nat.reduceEqDiff, ↓reduceIte, reduceCtorEq, Nat.reduceAdd, Nat.reduceSub, Nat.reduceMul, Nat.reduceLT, Nat.reduceLeDiff, Int.reduceAdd, Int.reduceSub, Int.reduceMul, Int.reduceLT, Int.reduceLE, Int.reduceEq, Int.reduceNeg, Int.reduceNe, Int.reduceGE, Int.reduceGT, Nat.reduceBEq, Int.reduceToNat]
    refine unrollI hE [(), (), ()] ?_
    simp only [go_sem, hG, hP, Nat.reduceEqDiff, ↓reduceIte, reduceCtorEq, Nat.reduceAdd, Nat.reduceSub, Nat.reduceMul, Nat.reduceLT, Nat.reduceLeDiff, Int.reduceAdd, Int.reduceSub, Int.reduceMul, Int.reduceLT, Int.reduceLE, Int.reduceEq, Int.reduceNeg, Int.reduceNe, Int.reduceGE, Int.reduceGT, Nat.reduceBEq, Int.reduceToNat,  spToIntS_f, spToIntS_t]
    refine ⟨b1, b2, ⟨_, _, _, ?_, h⟩⟩
    simp only [go_sem, hG, hP, Nat.reduceEqDiff, ↓reduceIte, reduceCtorEq, Nat.reduceAdd, Nat.reduceSub, Nat.reduceMul, Nat.reduceLT, Nat.reduceLeDiff, Int.reduceAdd, Int.reduceSub, Int.reduceMul, Int.reduceLT, Int.reduceLE, Int.reduceEq, Int.reduceNeg, Int.reduceNe, Int.reduceGE, Int.reduceGT, Nat.reduceBEq, Int.reduceToNat]
    all_goals simp
  · exact h.elim
def spToNum2 : Spec := ⟨fun _ => [], fun args objs K => match args, objs with
  | [.agg [.v (.int .i64 x), .v (.int .i64 y)]], [] => K (.agg [.v (.int .i64 x), .v (.int .i64 y)]) [] 0
  | _, _ => False⟩
theorem spToNum2_t {a : List AVal} : spToNum2.take a = [] := id rfl
theorem spToNum2_f {x} {y} {K : AVal → Hp → Nat → Prop} : Spec.f spToNum2 ([.agg [.v (.int .i64 x), .v (.int .i64 y)]]) ([]) K = (K (.agg [.v (.int .i64 x), .v (.int .i64 y)]) [] 0) := id rfl
theorem valid33 : Valid Try.prog 33 spToNum2 := by
  refine validI (Γ := lk []) Try.func33 bod33 low33 res33 (good_of trivial) ?_
  intro E args objs K h hE hG hP
  simp only [spToNum2] at h
  split at h
  · refine ⟨by simp [Try.ntmps33], ?_⟩
    rename_i x y
    simp only [go_sem, hG, hP, Nat.reduceEqDiff, ↓reduceIte, reduceCtorEq, Nat.reduceAdd, Nat.reduceSub, Nat.reduceMul, Nat.reduceLT, Nat.reduceLeDiff, Int.reduceAdd, Int.reduceSub, Int.reduceMul, Int.reduceLT, Int.reduceLE, Int.reduceEq, Int.reduceNeg, Int.reduceNe, Int.reduceGE, Int.reduceGT, Nat.reduceBEq, Int.reduceToNat]
    refine unrollI hE [(), (), ()] ?_
    simp only [go_sem, hG, hP, Nat.reduceEqDiff, ↓reduceIte, reduceCtorEq, Nat.reduceAdd, Nat.reduceSub, Nat.reduceMul, Nat.reduceLT, Nat.reduceLeDiff, Int.reduceAdd, Int.reduceSub, Int.reduceMul, Int.reduceLT, Int.reduceLE, Int.reduceEq, Int.reduceNeg, Int.reduceNe, Int.reduceGE, Int.reduceGT, Nat.reduceBEq, Int.reduceToNat]
    refine ⟨_, _, _, ?_, h⟩
    simp only [go_sem, hG, hP, Nat.reduceEqDiff, ↓reduceIte, reduceCtorEq, Nat.reduceAdd, Nat.reduceSub, Nat.reduceMul, Nat.reduceLT, Nat.reduceLeDiff, Int.reduceAdd, Int.reduceSub, Int.reduceMul, Int.reduceLT, Int.reduceLE, Int.reduceEq, Int.reduceNeg, Int.reduceNe, Int.reduceGE, Int.reduceGT, Nat.reduceBEq, Int.reduceToNat]
    all_goals simp
  · exact h.elim
def spToNote2 : Spec := ⟨fun _ => [], fun args objs K => match args, objs with
  | [.agg [.rs .note xs, .rs .note ys]], [] => (xs.length ≤ 1099511627776 ∧ ys.length ≤ 1099511627776) ∧ K (.agg [.sub 0 2 0 xs.length, .sub 1 2 0 ys.length]) [(0, .row .note xs), (1, .row .note ys)] 2
  | _, _ => False⟩
theorem spToNote2_t {a : List AVal} : spToNote2.take a = [] := id rfl
theorem spToNote2_f {xs} {ys} {K : AVal → Hp → Nat → Prop} : Spec.f spToNote2 ([.agg [.rs .note xs, .rs .note ys]]) ([]) K = ((xs.length ≤ 1099511627776 ∧ ys.length ≤ 1099511627776) ∧ K (.agg [.sub 0 2 0 xs.length, .sub 1 2 0 ys.length]) [(0, .row .note xs), (1, .row .note ys)] 2) := id rfl
theorem valid34 : Valid Try.prog 34 spToNote2 := by
  refine validI (Γ := lk [(54, spToNoteS)]) Try.func34 bod34 low34 res34 (good_of ⟨⟨cal54, valid54⟩, trivial⟩) ?_
  intro E args objs K h hE hG hP
  simp only [spToNote2] at h
  split at h
  · refine ⟨by simp [Try.ntmps34], ?_⟩
    rename_i xs ys
    obtain ⟨⟨b1, b2⟩, h⟩ := h
    simp only [go_sem, hG, hP, Nat.reduceEqDiff, ↓reduceIte, reduceCtorEq, Nat.reduceAdd, Nat.reduceSub, Nat.reduceMul, Nat.reduceLT, Nat.reduceLeDiff, Int.reduceAdd, Int.reduceSub, Int.reduceMul, Int.reduceLT, Int.reduceLE, Int.reduceEq, Int.reduceNeg, Int.reduceNe, Int.reduceGE, Int.reduceGT, Nat.reduceBEq, Int.reduceToNat]
    refine unrollI hE [(), (), ()] ?_
    simp only [go_sem, hG, hP, Nat.reduceEqDiff, ↓reduceIte, reduceCtorEq, Nat.reduceAdd, Nat.reduceSub, Nat.reduceMul, Nat.reduceLT, Nat.reduceLeDiff, Int.reduceAdd, Int.reduceSub, Int.reduceMul, Int.reduceLT, Int.reduceLE, Int.reduceEq, Int.reduceNeg, Int.reduceNe, Int.reduceGE, Int.reduceGT, Nat.reduceBEq, Int.reduceToNat,  spToNoteS_f, spToNoteS_t]
    refine ⟨b1, b2, ⟨_, _, _, ?_, h⟩⟩
    simp only [go_sem, hG, hP, Nat.reduceEqDiff, ↓reduceIte, reduceCtorEq, Nat.reduceAdd, Nat.reduceSub, Nat.reduceMul, Nat.reduceLT, Nat.reduceLeDiff, Int.reduceAdd, Int.reduceSub, Int.reduceMul, Int.reduceLT, Int.reduceLE, Int.reduceEq, Int.reduceNeg, Int.reduceNe, Int.reduceGE, Int.reduceGT, Nat.reduceBEq, Int.reduceToNat]
    all_goals simp
  · exact h.elim
def spToTr : Spec := ⟨fun _ => [], fun args objs K => match args, objs with
  | [.agg [.rs .int c0, .rs .int c1, .v (.int .i64 x), .v (.int .i64 y), .rs .note q0, .rs .note q1]], [] => (c0.length ≤ 1099511627776 ∧ c1.length ≤ 1099511627776 ∧ q0.length ≤ 1099511627776 ∧ q1.length ≤ 1099511627776) ∧ K (.agg [.sub 0 1 0 c0.length, .sub 1 1 0 c1.length, .v (.int .i64 x), .v (.int .i64 y), .sub 2 2 0 q0.length, .sub 3 2 0 q1.length]) [(0, .row .int c0), (1, .row .int c1), (2, .row .note q0), (3, .row .note q1)] 4
  | _, _ => False⟩
theorem spToTr_t {a : List AVal} : spToTr.take a = [] := id rfl
theorem spToTr_f {c0} {c1} {x} {y} {q0} {q1} {K : AVal → Hp → Nat → Prop} : Spec.f spToTr ([.agg [.rs .int c0, .rs .int c1, .v (.int .i64 x), .v (.int .i64 y), .rs .note q0, .rs .note q1]]) ([]) K = ((c0.length ≤ 1099511627776 ∧ c1.length ≤ 1099511627776 ∧ q0.length ≤ 1099511627776 ∧ q1.length ≤ 1099511627776) ∧ K (.agg [.sub 0 1 0 c0.length, .sub 1 1 0 c1.length, .v (.int .i64 x), .v (.int .i64 y), .sub 2 2 0 q0.length, .sub 3 2 0 q1.length]) [(0, .row .int c0), (1, .row .int c1), (2, .row .note q0), (3, .row .note q1)] 4) := id rfl
theorem valid10 : Valid Try.prog 10 spToTr := by
  refine validI (Γ := lk [(32, spToInt2), (33, spToNum2), (34, spToNote2)]) Try.func10 bod10 low10 res10 (good_of ⟨⟨cal32, valid32⟩, ⟨cal33, valid33⟩, ⟨cal34, valid34⟩, trivial⟩) ?_
  intro E args objs K h hE hG hP
  simp only [spToTr] at h
  split at h
  · refine ⟨by simp [Try.ntmps10], ?_⟩
    rename_i c0 c1 x y q0 q1
    obtain ⟨⟨b1, b2, b3, b4⟩, h⟩ := h
    simp only [go_sem, hG, hP, Nat.reduceEqDiff, ↓reduceIte, reduceCtorEq, Nat.reduceAdd, Nat.reduceSub, Nat.reduceMul, Nat.reduceLT, Nat.reduceLeDiff, Int.reduceAdd, Int.reduceSub, Int.reduceMul, Int.reduceLT, Int.reduceLE, Int.reduceEq, Int.reduceNeg, Int.reduceNe, Int.reduceGE, Int.reduceGT, Nat.reduceBEq, Int.reduceToNat,  spToInt2_f, spToInt2_t, spToNum2_f, spToNum2_t, spToNote2_f, spToNote2_t]
    refine ⟨⟨b1, b2⟩, ⟨b3, b4⟩, ⟨_, _, _, ?_, h⟩⟩
    simp only [go_sem, hG, hP, Nat.reduceEqDiff, ↓reduceIte, reduceCtorEq, Nat.reduceAdd, Nat.reduceSub, Nat.reduceMul, Nat.reduceLT, Nat.reduceLeDiff, Int.reduceAdd, Int.reduceSub, Int.reduceMul, Int.reduceLT, Int.reduceLE, Int.reduceEq, Int.reduceNeg, Int.reduceNe, Int.reduceGE, Int.reduceGT, Nat.reduceBEq, Int.reduceToNat]
    all_goals simp
  · exact h.elim
end Go.Proofs.YtfgefmkcmkihhaaE

/-! The code of a function, in the engine's words. -/
namespace Go.Proofs.YtfgefmkcmkihhaaE
open Go Go.RowKit
@[reducible] def ic38 : IC := (.seq (.ops [⟨some 2, .box (.tmp 0), none⟩, ⟨some 3, .box (.tmp 1), none⟩, ⟨some 4, .mov (.const (.bool false)), none⟩]) (.seq (.seq (.ops [⟨some 5, .mov (.const (.int .i64 0)), none⟩]) (.block 0 (.loop (.seq (.seq (.ops [⟨some 6, .mov (.tmp 5), none⟩, ⟨some 7, .bin .lss (.tmp 6) (.const (.int .i64 2)), none⟩]) (.cond (.tmp 7) .skip (.exit 0))) (.seq (.block 1 (.seq (.draw [⟨some 10, .mov (.tmp 5), none⟩, ⟨some 11, .iarr 1 2 (.tmp 2) (.tmp 10), none⟩, ⟨some 12, .load 1 false (.tmp 11), none⟩, ⟨some 13, .mov (.tmp 5), none⟩, ⟨some 14, .iarr 1 2 (.tmp 3) (.tmp 13), none⟩, ⟨some 15, .load 1 false (.tmp 14), none⟩, ⟨some 16, .call 57 [(.tmp 12), (.tmp 15)], none⟩, ⟨some 17, .una .not (.tmp 16), none⟩] (.held ⟨some 10, .mov (.tmp 5), none⟩ (.held ⟨some 11, .iarr 1 2 (.tmp 2) (.tmp 10), none⟩ (.held ⟨some 12, .load 1 false (.tmp 11), none⟩ (.held ⟨some 13, .mov (.tmp 5), none⟩ (.held ⟨some 14, .iarr 1 2 (.tmp 3) (.tmp 13), none⟩ (.held ⟨some 15, .load 1 false (.tmp 14), none⟩ (.alt ⟨some 16, .call 57 [(.tmp 12), (.tmp 15)], none⟩ (.held ⟨some 17, .una .not (.tmp 16), none⟩ .done) .stop)))))))) (.cond (.tmp 17) (.seq (.ops [⟨some 4, .mov (.const (.bool false)), none⟩]) .ret) .skip))) (.ops [⟨some 8, .mov (.tmp 5), none⟩, ⟨some 9, .bin .add (.tmp 8) (.const (.int .i64 1)), none⟩, ⟨some 5, .mov (.tmp 9), none⟩])))))) (.seq (.ops [⟨some 4, .mov (.const (.bool true)), none⟩]) .ret)))
@[reducible] def rv38 : List RV := [.tmp 4]
theorem low38 : lowC Try.prog tau Try.f38.ntmps (Try.f38.body.getD .skip) = some (erase ic38) := by kernel_rfl
theorem res38 : lowR Try.prog Try.f38.results.toList = some rv38 := by kernel_rfl
theorem bod38 : Try.f38.body = some (Try.f38.body.getD .skip) := by kernel_rfl
theorem cal38 : callable Try.prog 38 = true := by kernel_rfl

end Go.Proofs.YtfgefmkcmkihhaaE

/-! The code of a function, in the engine's words. -/
namespace Go.Proofs.YtfgefmkcmkihhaaE
open Go Go.RowKit
@[reducible] def ic39 : IC := (.seq (.ops [⟨some 2, .box (.tmp 0), none⟩, ⟨some 3, .box (.tmp 1), none⟩, ⟨some 4, .mov (.const (.bool false)), none⟩]) (.seq (.seq (.ops [⟨some 5, .mov (.const (.int .i64 0)), none⟩]) (.block 0 (.loop (.seq (.seq (.ops [⟨some 6, .mov (.tmp 5), none⟩, ⟨some 7, .bin .lss (.tmp 6) (.const (.int .i64 2)), none⟩]) (.cond (.tmp 7) .skip (.exit 0))) (.seq (.block 1 (.seq (.draw [⟨some 10, .mov (.tmp 5), none⟩, ⟨some 11, .iarr 1 2 (.tmp 2) (.tmp 10), none⟩, ⟨some 12, .load 1 false (.tmp 11), none⟩, ⟨some 13, .mov (.tmp 5), none⟩, ⟨some 14, .iarr 1 2 (.tmp 3) (.tmp 13), none⟩, ⟨some 15, .load 1 false (.tmp 14), none⟩, ⟨some 16, .bin .neq (.tmp 12) (.tmp 15), none⟩] (.held ⟨some 10, .mov (.tmp 5), none⟩ (.held ⟨some 11, .iarr 1 2 (.tmp 2) (.tmp 10), none⟩ (.held ⟨some 12, .load 1 false (.tmp 11), none⟩ (.held ⟨some 13, .mov (.tmp 5), none⟩ (.held ⟨some 14, .iarr 1 2 (.tmp 3) (.tmp 13), none⟩ (.held ⟨some 15, .load 1 false (.tmp 14), none⟩ (.held ⟨some 16, .bin .neq (.tmp 12) (.tmp 15), none⟩ .done)))))))) (.cond (.tmp 16) (.seq (.ops [⟨some 4, .mov (.const (.bool false)), none⟩]) .ret) .skip))) (.ops [⟨some 8, .mov (.tmp 5), none⟩, ⟨some 9, .bin .add (.tmp 8) (.const (.int .i64 1)), none⟩, ⟨some 5, .mov (.tmp 9), none⟩])))))) (.seq (.ops [⟨some 4, .mov (.const (.bool true)), none⟩]) .ret)))
@[reducible] def rv39 : List RV := [.tmp 4]
theorem low39 : lowC Try.prog tau Try.f39.ntmps (Try.f39.body.getD .skip) = some (erase ic39) := by kernel_rfl
theorem res39 : lowR Try.prog Try.f39.results.toList = some rv39 := by kernel_rfl
theorem bod39 : Try.f39.body = some (Try.f39.body.getD .skip) := by kernel_rfl
theorem cal39 : callable Try.prog 39 = true := by kernel_rfl

end Go.Proofs.YtfgefmkcmkihhaaE

/-! The code of a function, in the engine's words. -/
namespace Go.Proofs.YtfgefmkcmkihhaaE
open Go Go.RowKit
@[reducible] def ic40 : IC := (.seq (.ops [⟨some 2, .box (.tmp 0), none⟩, ⟨some 3, .box (.tmp 1), none⟩, ⟨some 4, .mov (.const (.bool false)), none⟩]) (.seq (.seq (.ops [⟨some 5, .mov (.const (.int .i64 0)), none⟩]) (.block 0 (.loop (.seq (.seq (.ops [⟨some 6, .mov (.tmp 5), none⟩, ⟨some 7, .bin .lss (.tmp 6) (.const (.int .i64 2)), none⟩]) (.cond (.tmp 7) .skip (.exit 0))) (.seq (.block 1 (.seq (.draw [⟨some 10, .mov (.tmp 5), none⟩, ⟨some 11, .iarr 1 2 (.tmp 2) (.tmp 10), none⟩, ⟨some 12, .load 1 false (.tmp 11), none⟩, ⟨some 13, .mov (.tmp 5), none⟩, ⟨some 14, .iarr 1 2 (.tmp 3) (.tmp 13), none⟩, ⟨some 15, .load 1 false (.tmp 14), none⟩, ⟨some 16, .call 58 [(.tmp 12), (.tmp 15)], none⟩, ⟨some 17, .una .not (.tmp 16), none⟩] (.held ⟨some 10, .mov (.tmp 5), none⟩ (.held ⟨some 11, .iarr 1 2 (.tmp 2) (.tmp 10), none⟩ (.held ⟨some 12, .load 1 false (.tmp 11), none⟩ (.held ⟨some 13, .mov (.tmp 5), none⟩ (.held ⟨some 14, .iarr 1 2 (.tmp 3) (.tmp 13), none⟩ (.held ⟨some 15, .load 1 false (.tmp 14), none⟩ (.alt ⟨some 16, .call 58 [(.tmp 12), (.tmp 15)], none⟩ (.held ⟨some 17, .una .not (.tmp 16), none⟩ .done) .stop)))))))) (.cond (.tmp 17) (.seq (.ops [⟨some 4, .mov (.const (.bool false)), none⟩]) .ret) .skip))) (.ops [⟨some 8, .mov (.tmp 5), none⟩, ⟨some 9, .bin .add (.tmp 8) (.const (.int .i64 1)), none⟩, ⟨some 5, .mov (.tmp 9), none⟩])))))) (.seq (.ops [⟨some 4, .mov (.const (.bool true)), none⟩]) .ret)))
@[reducible] def rv40 : List RV := [.tmp 4]
theorem low40 : lowC Try.prog tau Try.f40.ntmps (Try.f40.body.getD .skip) = some (erase ic40) := by kernel_rfl
theorem res40 : lowR Try.prog Try.f40.results.toList = some rv40 := by kernel_rfl
theorem bod40 : Try.f40.body = some (Try.f40.body.getD .skip) := by kernel_rfl
theorem cal40 : callable Try.prog 40 = true := by kernel_rfl

end Go.Proofs.YtfgefmkcmkihhaaE

/-! The code of a function, in the engine's words. -/
namespace Go.Proofs.YtfgefmkcmkihhaaE
open Go Go.RowKit
@[reducible] def ic12 : IC := (.seq (.ops [⟨some 2, .box (.tmp 0), none⟩, ⟨some 3, .box (.tmp 1), none⟩, ⟨some 4, .mov (.const (.bool false)), none⟩]) (.seq (.seq (.ops [⟨some 5, .fadr 0 (.tmp 2), none⟩, ⟨some 6, .load 2 true (.tmp 5), none⟩, ⟨some 7, .fadr 0 (.tmp 3), none⟩, ⟨some 8, .load 2 true (.tmp 7), none⟩, ⟨some 9, .call 38 [(.tmp 6), (.tmp 8)], none⟩, ⟨some 10, .una .not (.tmp 9), none⟩]) (.cond (.tmp 10) (.seq (.ops [⟨some 4, .mov (.const (.bool false)), none⟩]) .ret) .skip)) (.seq (.seq (.ops [⟨some 11, .fadr 2 (.tmp 2), none⟩, ⟨some 12, .load 2 true (.tmp 11), none⟩, ⟨some 13, .fadr 2 (.tmp 3), none⟩, ⟨some 14, .load 2 true (.tmp 13), none⟩, ⟨some 15, .call 39 [(.tmp 12), (.tmp 14)], none⟩, ⟨some 16, .una .not (.tmp 15), none⟩]) (.cond (.tmp 16) (.seq (.ops [⟨some 4, .mov (.const (.bool false)), none⟩]) .ret) .skip)) (.seq (.seq (.ops [⟨some 17, .fadr 4 (.tmp 2), none⟩, ⟨some 18, .load 2 true (.tmp 17), none⟩, ⟨some 19, .fadr 4 (.tmp 3), none⟩, ⟨some 20, .load 2 true (.tmp 19), none⟩, ⟨some 21, .call 40 [(.tmp 18), (.tmp 20)], none⟩, ⟨some 22, .una .not (.tmp 21), none⟩]) (.cond (.tmp 22) (.seq (.ops [⟨some 4, .mov (.const (.bool false)), none⟩]) .ret) .skip)) (.seq (.ops [⟨some 4, .mov (.const (.bool true)), none⟩]) .ret)))))
@[reducible] def rv12 : List RV := [.tmp 4]
theorem low12 : lowC Try.prog tau Try.f12.ntmps (Try.f12.body.getD .skip) = some (erase ic12) := by kernel_rfl
theorem res12 : lowR Try.prog Try.f12.results.toList = some rv12 := by kernel_rfl
theorem bod12 : Try.f12.body = some (Try.f12.body.getD .skip) := by kernel_rfl
theorem cal12 : callable Try.prog 12 = true := by kernel_rfl

end Go.Proofs.YtfgefmkcmkihhaaE

/-! Two Trunks compared. -/
namespace Go.Proofs.YtfgefmkcmkihhaaE
open Go Go.RowKit
set_option linter.unusedSimpArgs false
set_option linter.unusedVariables false
set_option maxRecDepth 20000

def spEqInt2 : Spec := ⟨fun _ => [], fun args objs K => match args, objs with
  | [.agg [.rs .int a, .rs .int b], .agg [.rs .int c, .rs .int d]], [] => ((a.length ≤ 1099511627776 ∧ b.length ≤ 1099511627776) ∧ (c.length ≤ 1099511627776 ∧ d.length ≤ 1099511627776)) ∧ K (.v (.bool (decide (a = c ∧ b = d)))) [] 0
  | _, _ => False⟩
theorem spEqInt2_t {a : List AVal} : spEqInt2.take a = [] := id rfl
theorem spEqInt2_f {a} {b} {c} {d} {K : AVal → Hp → Nat → Prop} : Spec.f spEqInt2 ([.agg [.rs .int a, .rs .int b], .agg [.rs .int c, .rs .int d]]) ([]) K = (((a.length ≤ 1099511627776 ∧ b.length ≤ 1099511627776) ∧ (c.length ≤ 1099511627776 ∧ d.length ≤ 1099511627776)) ∧ K (.v (.bool (decide (a = c ∧ b = d)))) [] 0) := id rfl
theorem valid38 : Valid Try.prog 38 spEqInt2 := by
  refine validI (Γ := lk [(57, spEqIntS)]) Try.func38 bod38 low38 res38 (good_of ⟨⟨cal57, valid57⟩, trivial⟩) ?_
  intro E args objs K h hE hG hP
  simp only [spEqInt2] at h
  split at h
  · refine ⟨by simp [Try.ntmps38], ?_⟩
    rename_i a b c d
    obtain ⟨⟨⟨b1, b2⟩, ⟨b3, b4⟩⟩, h⟩ := h
    simp only [go_sem, hG, hP, Nat.reduceEqDiff, ↓reduceIte, reduceCtorEq, Nat.reduceAdd, Nat.reduceSub, Nat.reduceMul, Nat.reduceLT, Nat.reduceLeDiff, Int.reduceAdd, Int.reduceSub, Int.reduceMul, Int.reduceLT, Int.reduceLE, Int.reduceEq, Int.reduceNeg, Int.reduceNe, Int.reduceGE, Int.reduceGT, Nat.reduceBEq, Int.reduceToNat]
    refine unrollI hE [(), (), ()] ?_
    simp only [go_sem, hG, hP, Nat.reduceEqDiff, ↓reduceIte, reduceCtorEq, Nat.reduceAdd, Nat.reduceSub, Nat.reduceMul, Nat.reduceLT, Nat.reduceLeDiff, Int.reduceAdd, Int.reduceSub, Int.reduceMul, Int.reduceLT, Int.reduceLE, Int.reduceEq, Int.reduceNeg, Int.reduceNe, Int.reduceGE, Int.reduceGT, Nat.reduceBEq, Int.reduceToNat,  spEqIntS_f, spEqIntS_t]
    refine ⟨⟨b1, b3⟩, fun h1 => ⟨_, _, _, ?_, h⟩, fun h1 => ⟨⟨b2, b4⟩, fun h2 => ⟨_, _, _, ?_, h⟩, fun h2 => ⟨_, _, _, ?_, h⟩⟩⟩
    · simp only [go_sem, hG, hP, Nat.reduceEqDiff, ↓reduceIte, reduceCtorEq, Nat.reduceAdd, Nat.reduceSub, Nat.reduceMul, Nat.reduceLT, Nat.reduceLeDiff, Int.reduceAdd, Int.reduceSub, Int.reduceMul, Int.reduceLT, Int.reduceLE, Int.reduceEq, Int.reduceNeg, Int.reduceNe, Int.reduceGE, Int.reduceGT, Nat.reduceBEq, Int.reduceToNat]
      rw [decide_eq_false fun e => h1 e.1]
    · simp only [go_sem, hG, hP, Nat.reduceEqDiff, ↓reduceIte, reduceCtorEq, Nat.reduceAdd, Nat.reduceSub, Nat.reduceMul, Nat.reduceLT, Nat.reduceLeDiff, Int.reduceAdd, Int.reduceSub, Int.reduceMul, Int.reduceLT, Int.reduceLE, Int.reduceEq, Int.reduceNeg, Int.reduceNe, Int.reduceGE, Int.reduceGT, Nat.reduceBEq, Int.reduceToNat]
      rw [decide_eq_false fun e => h2 e.2]
    · simp only [go_sem, hG, hP, Nat.reduceEqDiff, ↓reduceIte, reduceCtorEq, Nat.reduceAdd, Nat.reduceSub, Nat.reduceMul, Nat.reduceLT, Nat.reduceLeDiff, Int.reduceAdd, Int.reduceSub, Int.reduceMul, Int.reduceLT, Int.reduceLE, Int.reduceEq, Int.reduceNeg, Int.reduceNe, Int.reduceGE, Int.reduceGT, Nat.reduceBEq, Int.reduceToNat]
      rw [decide_eq_true ⟨h1, h2⟩]
  · exact h.elim
def spEqNote2 : Spec := ⟨fun _ => [], fun args objs K => match args, objs with
  | [.agg [.rs .note a, .rs .note b], .agg [.rs .note c, .rs .note d]], [] => ((a.length ≤ 1099511627776 ∧ b.length ≤ 1099511627776) ∧ (c.length ≤ 1099511627776 ∧ d.length ≤ 1099511627776)) ∧ K (.v (.bool (decide (a = c ∧ b = d)))) [] 0
  | _, _ => False⟩
theorem spEqNote2_t {a : List AVal} : spEqNote2.take a = [] := id rfl
theorem spEqNote2_f {a} {b} {c} {d} {K : AVal → Hp → Nat → Prop} : Spec.f spEqNote2 ([.agg [.rs .note a, .rs .note b], .agg [.rs .note c, .rs .note d]]) ([]) K = (((a.length ≤ 1099511627776 ∧ b.length ≤ 1099511627776) ∧ (c.length ≤ 1099511627776 ∧ d.length ≤ 1099511627776)) ∧ K (.v (.bool (decide (a = c ∧ b = d)))) [] 0) := id rfl
theorem valid40 : Valid Try.prog 40 spEqNote2 := by
  refine validI (Γ := lk [(58, spEqNoteS)]) Try.func40 bod40 low40 res40 (good_of ⟨⟨cal58, valid58⟩, trivial⟩) ?_
  intro E args objs K h hE hG hP
  simp only [spEqNote2] at h
  split at h
  · refine ⟨by simp [Try.ntmps40], ?_⟩
    rename_i a b c d
    obtain ⟨⟨⟨b1, b2⟩, ⟨b3, b4⟩⟩, h⟩ := h
    simp only [go_sem, hG, hP, Nat.reduceEqDiff, ↓reduceIte, reduceCtorEq, Nat.reduceAdd, Nat.reduceSub, Nat.reduceMul, Nat.reduceLT, Nat.reduceLeDiff, Int.reduceAdd, Int.reduceSub, Int.reduceMul, Int.reduceLT, Int.reduceLE, Int.reduceEq, Int.reduceNeg, Int.reduceNe, Int.reduceGE, Int.reduceGT, Nat.reduceBEq, Int.reduceToNat]
    refine unrollI hE [(), (), ()] ?_
    simp only [go_sem, hG, hP, Nat.reduceEqDiff, ↓reduceIte, reduceCtorEq, Nat.reduceAdd, Nat.reduceSub, Nat.reduceMul, Nat.reduceLT, Nat.reduceLeDiff, Int.reduceAdd, Int.reduceSub, Int.reduceMul, Int.reduceLT, Int.reduceLE, Int.reduceEq, Int.reduceNeg, Int.reduceNe, Int.reduceGE, Int.reduceGT, Nat.reduceBEq, Int.reduceToNat,  spEqNoteS_f, spEqNoteS_t]
    refine ⟨⟨b1, b3⟩, fun h1 => ⟨_, _, _, ?_, h⟩, fun h1 => ⟨⟨b2, b4⟩, fun h2 => ⟨_, _, _, ?_, h⟩, fun h2 => ⟨_, _, _, ?_, h⟩⟩⟩
    · simp only [go_sem, hG, hP, Nat.reduceEqDiff, ↓reduceIte, reduceCtorEq, Nat.reduceAdd, Nat.reduceSub, Nat.reduceMul, Nat.reduceLT, Nat.reduceLeDiff, Int.reduceAdd, Int.reduceSub, Int.reduceMul, Int.reduceLT, Int.reduceLE, Int.reduceEq, Int.reduceNeg, Int.reduceNe, Int.reduceGE, Int.reduceGT, Nat.reduceBEq, Int.reduceToNat]
      rw [decide_eq_false fun e => h1 e.1]
    · simp only [go_sem, hG, hP, Nat.reduceEqDiff, ↓reduceIte, reduceCtorEq, Nat.reduceAdd, Nat.reduceSub, Nat.reduceMul, Nat.reduceLT, Nat.reduceLeDiff, Int.reduceAdd, Int.reduceSub, Int.reduceMul, Int.reduceLT, Int.reduceLE, Int.reduceEq, Int.reduceNeg, Int.reduceNe, Int.reduceGE, Int.reduceGT, Nat.reduceBEq, Int.reduceToNat]
      rw [decide_eq_false fun e => h2 e.2]
    · simp only [go_sem, hG, hP, Nat.reduceEqDiff, ↓reduceIte, reduceCtorEq, Nat.reduceAdd, Nat.reduceSub, Nat.reduceMul, Nat.reduceLT, Nat.reduceLeDiff, Int.reduceAdd, Int.reduceSub, Int.reduceMul, Int.reduceLT, Int.reduceLE, Int.reduceEq, Int.reduceNeg, Int.reduceNe, Int.reduceGE, Int.reduceGT, Nat.reduceBEq, Int.reduceToNat]
      rw [decide_eq_true ⟨h1, h2⟩]
  · exact h.elim
def spEqNum2 : Spec := ⟨fun _ => [], fun args objs K => match args, objs with
  | [.agg [.v (.int .i64 a), .v (.int .i64 b)], .agg [.v (.int .i64 c), .v (.int .i64 d)]], [] => K (.v (.bool (decide (a = c ∧ b = d)))) [] 0
  | _, _ => False⟩
theorem spEqNum2_t {a : List AVal} : spEqNum2.take a = [] := id rfl
theorem spEqNum2_f {a} {b} {c} {d} {K : AVal → Hp → Nat → Prop} : Spec.f spEqNum2 ([.agg [.v (.int .i64 a), .v (.int .i64 b)], .agg [.v (.int .i64 c), .v (.int .i64 d)]]) ([]) K = (K (.v (.bool (decide (a = c ∧ b = d)))) [] 0) := id rfl
theorem valid39 : Valid Try.prog 39 spEqNum2 := by
  refine validI (Γ := lk []) Try.func39 bod39 low39 res39 (good_of trivial) ?_
  intro E args objs K h hE hG hP
  simp only [spEqNum2] at h
  split at h
  · refine ⟨by simp [Try.ntmps39], ?_⟩
    rename_i a b c d
    simp only [go_sem, hG, hP, Nat.reduceEqDiff, ↓reduceIte, reduceCtorEq, Nat.reduceAdd, Nat.reduceSub, Nat.reduceMul, Nat.reduceLT, Nat.reduceLeDiff, Int.reduceAdd, Int.reduceSub, Int.reduceMul, Int.reduceLT, Int.reduceLE, Int.reduceEq, Int.reduceNeg, Int.reduceNe, Int.reduceGE, Int.reduceGT, Nat.reduceBEq, Int.reduceToNat]
    refine unrollI hE [(), (), ()] ?_
    simp only [go_sem, hG, hP, Nat.reduceEqDiff, ↓reduceIte, reduceCtorEq, Nat.reduceAdd, Nat.reduceSub, Nat.reduceMul, Nat.reduceLT, Nat.reduceLeDiff, Int.reduceAdd, Int.reduceSub, Int.reduceMul, Int.reduceLT, Int.reduceLE, Int.reduceEq, Int.reduceNeg, Int.reduceNe, Int.reduceGE, Int.reduceGT, Nat.reduceBEq, Int.reduceToNat]
    refine ⟨fun h1 => ⟨_, _, _, ?_, h⟩, fun h1 => ⟨fun h2 => ⟨_, _, _, ?_, h⟩, fun h2 => ⟨_, _, _, ?_, h⟩⟩⟩ <;> simp only [go_sem, hG, hP, Nat.reduceEqDiff, ↓reduceIte, reduceCtorEq, Nat.reduceAdd, Nat.reduceSub, Nat.reduceMul, Nat.reduceLT, Nat.reduceLeDiff, Int.reduceAdd, Int.reduceSub, Int.reduceMul, Int.reduceLT, Int.reduceLE, Int.reduceEq, Int.reduceNeg, Int.reduceNe, Int.reduceGE, Int.reduceGT, Nat.reduceBEq, Int.reduceToNat] <;> simp <;> omega
  · exact h.elim
def spEqTr : Spec := ⟨fun _ => [], fun args objs K => match args, objs with
  | [.agg [.rs .int a, .rs .int b, .v (.int .i64 x), .v (.int .i64 y), .rs .note p, .rs .note q], .agg [.rs .int a', .rs .int b', .v (.int .i64 x'), .v (.int .i64 y'), .rs .note p', .rs .note q']], [] =>
      ((a.length ≤ 1099511627776 ∧ b.length ≤ 1099511627776 ∧ p.length ≤ 1099511627776 ∧ q.length ≤ 1099511627776) ∧ (a'.length ≤ 1099511627776 ∧ b'.length ≤ 1099511627776 ∧ p'.length ≤ 1099511627776 ∧ q'.length ≤ 1099511627776)) ∧
      K (.v (.bool (decide ((a = a' ∧ b = b') ∧ (x = x' ∧ y = y') ∧ (p = p' ∧ q = q'))))) [] 0
  | _, _ => False⟩
theorem spEqTr_t {a : List AVal} : spEqTr.take a = [] := id rfl
theorem spEqTr_f {a} {b} {x} {y} {p} {q} {a'} {b'} {x'} {y'} {p'} {q'} {K : AVal → Hp → Nat → Prop} : Spec.f spEqTr ([.agg [.rs .int a, .rs .int b, .v (.int .i64 x), .v (.int .i64 y), .rs .note p, .rs .note q], .agg [.rs .int a', .rs .int b', .v (.int .i64 x'), .v (.int .i64 y'), .rs .note p', .rs .note q']]) ([]) K = (((a.length ≤ 1099511627776 ∧ b.length ≤ 1099511627776 ∧ p.length ≤ 1099511627776 ∧ q.length ≤ 1099511627776) ∧ (a'.length ≤ 1099511627776 ∧ b'.length ≤ 1099511627776 ∧ p'.length ≤ 1099511627776 ∧ q'.length ≤ 1099511627776)) ∧
      K (.v (.bool (decide ((a = a' ∧ b = b') ∧ (x = x' ∧ y = y') ∧ (p = p' ∧ q = q'))))) [] 0) := id rfl
theorem valid12 : Valid Try.prog 12 spEqTr := by
  refine validI (Γ := lk [(38, spEqInt2), (39, spEqNum2), (40, spEqNote2)]) Try.func12 bod12 low12 res12 (good_of ⟨⟨cal38, valid38⟩, ⟨cal39, valid39⟩, ⟨cal40, valid40⟩, trivial⟩) ?_
  intro E args objs K h hE hG hP
  simp only [spEqTr] at h
  split at h
  · refine ⟨by simp [Try.ntmps12], ?_⟩
    obtain ⟨⟨⟨b1, b2, b3, b4⟩, ⟨b5, b6, b7, b8⟩⟩, h⟩ := h
    simp only [go_sem, hG, hP, Nat.reduceEqDiff, ↓reduceIte, reduceCtorEq, Nat.reduceAdd, Nat.reduceSub, Nat.reduceMul, Nat.reduceLT, Nat.reduceLeDiff, Int.reduceAdd, Int.reduceSub, Int.reduceMul, Int.reduceLT, Int.reduceLE, Int.reduceEq, Int.reduceNeg, Int.reduceNe, Int.reduceGE, Int.reduceGT, Nat.reduceBEq, Int.reduceToNat,  spEqInt2_f, spEqInt2_t, spEqNum2_f, spEqNum2_t, spEqNote2_f, spEqNote2_t]
    refine ⟨⟨⟨b1, b2⟩, ⟨b5, b6⟩⟩, fun h1 => ⟨_, _, _, ?_, h⟩, fun h1 => ⟨fun h2 => ⟨_, _, _, ?_, h⟩, fun h2 => ⟨⟨⟨b3, b4⟩, ⟨b7, b8⟩⟩, fun h3 => ⟨_, _, _, ?_, h⟩, fun h3 => ⟨_, _, _, ?_, h⟩⟩⟩⟩
    · simp only [go_sem, hG, hP, Nat.reduceEqDiff, ↓reduceIte, reduceCtorEq, Nat.reduceAdd, Nat.reduceSub, Nat.reduceMul, Nat.reduceLT, Nat.reduceLeDiff, Int.reduceAdd, Int.reduceSub, Int.reduceMul, Int.reduceLT, Int.reduceLE, Int.reduceEq, Int.reduceNeg, Int.reduceNe, Int.reduceGE, Int.reduceGT, Nat.reduceBEq, Int.reduceToNat]
      rw [decide_eq_false fun e => h1 e.1]
    · simp only [go_sem, hG, hP, Nat.reduceEqDiff, ↓reduceIte, reduceCtorEq, Nat.reduceAdd, Nat.reduceSub, Nat.reduceMul, Nat.reduceLT, Nat.reduceLeDiff, Int.reduceAdd, Int.reduceSub, Int.reduceMul, Int.reduceLT, Int.reduceLE, Int.reduceEq, Int.reduceNeg, Int.reduceNe, Int.reduceGE, Int.reduceGT, Nat.reduceBEq, Int.reduceToNat]
      rw [decide_eq_false fun e => h2 e.2.1]
    · simp only [go_sem, hG, hP, Nat.reduceEqDiff, ↓reduceIte, reduceCtorEq, Nat.reduceAdd, Nat.reduceSub, Nat.reduceMul, Nat.reduceLT, Nat.reduceLeDiff, Int.reduceAdd, Int.reduceSub, Int.reduceMul, Int.reduceLT, Int.reduceLE, Int.reduceEq, Int.reduceNeg, Int.reduceNe, Int.reduceGE, Int.reduceGT, Nat.reduceBEq, Int.reduceToNat]
      rw [decide_eq_false fun e => h3 e.2.2]
    · simp only [go_sem, hG, hP, Nat.reduceEqDiff, ↓reduceIte, reduceCtorEq, Nat.reduceAdd, Nat.reduceSub, Nat.reduceMul, Nat.reduceLT, Nat.reduceLeDiff, Int.reduceAdd, Int.reduceSub, Int.reduceMul, Int.reduceLT, Int.reduceLE, Int.reduceEq, Int.reduceNeg, Int.reduceNe, Int.reduceGE, Int.reduceGT, Nat.reduceBEq, Int.reduceToNat]
      rw [decide_eq_true ⟨h1, h2, h3⟩]
  · exact h.elim
end Go.Proofs.YtfgefmkcmkihhaaE

/-! The code of a function, in the engine's words. -/
namespace Go.Proofs.YtfgefmkcmkihhaaE
open Go Go.RowKit
@[reducible] def ic41 : IC := (.seq (.ops [⟨some 2, .box (.tmp 0), none⟩, ⟨some 4, .mov (.const (.int .i64 0)), none⟩]) (.seq (.seq (.ops [⟨some 5, .mov (.const (.int .i64 0)), none⟩]) (.block 0 (.loop (.seq (.seq (.ops [⟨some 6, .mov (.tmp 5), none⟩, ⟨some 7, .bin .lss (.tmp 6) (.const (.int .i64 2)), none⟩]) (.cond (.tmp 7) .skip (.exit 0))) (.seq (.block 1 (.ops [⟨some 10, .mov (.tmp 5), none⟩, ⟨some 11, .iarr 1 2 (.tmp 2) (.tmp 10), none⟩, ⟨some 12, .load 1 false (.tmp 11), none⟩, ⟨some 13, .mov (.tmp 1), none⟩, ⟨some 14, .call 59 [(.tmp 12), (.tmp 13)], none⟩, ⟨some 1, .mov (.tmp 14), none⟩])) (.ops [⟨some 8, .mov (.tmp 5), none⟩, ⟨some 9, .bin .add (.tmp 8) (.const (.int .i64 1)), none⟩, ⟨some 5, .mov (.tmp 9), none⟩])))))) (.seq (.ops [⟨some 15, .mov (.tmp 1), none⟩, ⟨some 4, .mov (.tmp 15), none⟩]) .ret)))
@[reducible] def rv41 : List RV := [.tmp 4]
theorem low41 : lowC Try.prog tau Try.f41.ntmps (Try.f41.body.getD .skip) = some (erase ic41) := by kernel_rfl
theorem res41 : lowR Try.prog Try.f41.results.toList = some rv41 := by kernel_rfl
theorem bod41 : Try.f41.body = some (Try.f41.body.getD .skip) := by kernel_rfl
theorem cal41 : callable Try.prog 41 = true := by kernel_rfl

end Go.Proofs.YtfgefmkcmkihhaaE

/-! The code of a function, in the engine's words. -/
namespace Go.Proofs.YtfgefmkcmkihhaaE
open Go Go.RowKit
@[reducible] def ic42 : IC := (.seq (.ops [⟨some 2, .box (.tmp 0), none⟩, ⟨some 4, .mov (.const (.int .i64 0)), none⟩]) (.seq (.seq (.ops [⟨some 5, .mov (.const (.int .i64 0)), none⟩]) (.block 0 (.loop (.seq (.seq (.ops [⟨some 6, .mov (.tmp 5), none⟩, ⟨some 7, .bin .lss (.tmp 6) (.const (.int .i64 2)), none⟩]) (.cond (.tmp 7) .skip (.exit 0))) (.seq (.block 1 (.ops [⟨some 10, .mov (.tmp 5), none⟩, ⟨some 11, .iarr 1 2 (.tmp 2) (.tmp 10), none⟩, ⟨some 12, .load 1 false (.tmp 11), none⟩, ⟨some 13, .mov (.tmp 1), none⟩, ⟨some 14, .call 60 [(.tmp 12), (.tmp 13)], none⟩, ⟨some 1, .mov (.tmp 14), none⟩])) (.ops [⟨some 8, .mov (.tmp 5), none⟩, ⟨some 9, .bin .add (.tmp 8) (.const (.int .i64 1)), none⟩, ⟨some 5, .mov (.tmp 9), none⟩])))))) (.seq (.ops [⟨some 15, .mov (.tmp 1), none⟩, ⟨some 4, .mov (.tmp 15), none⟩]) .ret)))
@[reducible] def rv42 : List RV := [.tmp 4]
theorem low42 : lowC Try.prog tau Try.f42.ntmps (Try.f42.body.getD .skip) = some (erase ic42) := by kernel_rfl
theorem res42 : lowR Try.prog Try.f42.results.toList = some rv42 := by kernel_rfl
theorem bod42 : Try.f42.body = some (Try.f42.body.getD .skip) := by kernel_rfl
theorem cal42 : callable Try.prog 42 = true := by kernel_rfl

end Go.Proofs.YtfgefmkcmkihhaaE

/-! The code of a function, in the engine's words. -/
namespace Go.Proofs.YtfgefmkcmkihhaaE
open Go Go.RowKit
@[reducible] def ic13 : IC := (.seq (.ops [⟨some 2, .box (.tmp 0), none⟩, ⟨some 4, .mov (.const (.int .i64 0)), none⟩]) (.seq (.ops [⟨some 5, .fadr 0 (.tmp 2), none⟩, ⟨some 6, .load 2 true (.tmp 5), none⟩, ⟨some 7, .mov (.tmp 1), none⟩, ⟨some 8, .call 41 [(.tmp 6), (.tmp 7)], none⟩, ⟨some 1, .mov (.tmp 8), none⟩]) (.seq (.ops [⟨some 9, .fadr 4 (.tmp 2), none⟩, ⟨some 10, .load 2 true (.tmp 9), none⟩, ⟨some 11, .mov (.tmp 1), none⟩, ⟨some 12, .call 42 [(.tmp 10), (.tmp 11)], none⟩, ⟨some 1, .mov (.tmp 12), none⟩]) (.seq (.ops [⟨some 13, .mov (.tmp 1), none⟩, ⟨some 4, .mov (.tmp 13), none⟩]) .ret))))
@[reducible] def rv13 : List RV := [.tmp 4]
theorem low13 : lowC Try.prog tau Try.f13.ntmps (Try.f13.body.getD .skip) = some (erase ic13) := by kernel_rfl
theorem res13 : lowR Try.prog Try.f13.results.toList = some rv13 := by kernel_rfl
theorem bod13 : Try.f13.body = some (Try.f13.body.getD .skip) := by kernel_rfl
theorem cal13 : callable Try.prog 13 = true := by kernel_rfl

end Go.Proofs.YtfgefmkcmkihhaaE

/-! The code of a function, in the engine's words. -/
namespace Go.Proofs.YtfgefmkcmkihhaaE
open Go Go.RowKit
@[reducible] def ic43 : IC := (.seq (.ops [⟨some 2, .box (.tmp 0), none⟩, ⟨some 4, .mov (.const (.int .i64 0)), none⟩]) (.seq (.seq (.ops [⟨some 5, .mov (.const (.int .i64 0)), none⟩]) (.block 0 (.loop (.seq (.seq (.ops [⟨some 6, .mov (.tmp 5), none⟩, ⟨some 7, .bin .lss (.tmp 6) (.const (.int .i64 2)), none⟩]) (.cond (.tmp 7) .skip (.exit 0))) (.seq (.block 1 (.seq (.ops [⟨some 10, .mov (.tmp 5), none⟩, ⟨some 11, .iarr 1 2 (.tmp 2) (.tmp 10), none⟩, ⟨some 12, .load 1 false (.tmp 11), none⟩, ⟨some 13, .mov (.tmp 1), none⟩, ⟨some 14, .call 61 [(.tmp 12), (.tmp 13)], none⟩, ⟨some 1, .mov (.tmp 14), none⟩]) (.seq (.ops [⟨some 15, .mov (.tmp 1), none⟩, ⟨some 16, .bin .lss (.tmp 15) (.const (.int .i64 0)), none⟩]) (.cond (.tmp 16) (.seq (.ops [⟨some 4, .mov (.const (.int .i64 (-1))), none⟩]) .ret) .skip)))) (.ops [⟨some 8, .mov (.tmp 5), none⟩, ⟨some 9, .bin .add (.tmp 8) (.const (.int .i64 1)), none⟩, ⟨some 5, .mov (.tmp 9), none⟩])))))) (.seq (.ops [⟨some 17, .mov (.tmp 1), none⟩, ⟨some 4, .mov (.tmp 17), none⟩]) .ret)))
@[reducible] def rv43 : List RV := [.tmp 4]
theorem low43 : lowC Try.prog tau Try.f43.ntmps (Try.f43.body.getD .skip) = some (erase ic43) := by kernel_rfl
theorem res43 : lowR Try.prog Try.f43.results.toList = some rv43 := by kernel_rfl
theorem bod43 : Try.f43.body = some (Try.f43.body.getD .skip) := by kernel_rfl
theorem cal43 : callable Try.prog 43 = true := by kernel_rfl

end Go.Proofs.YtfgefmkcmkihhaaE

/-! The code of a function, in the engine's words. -/
namespace Go.Proofs.YtfgefmkcmkihhaaE
open Go Go.RowKit
@[reducible] def ic44 : IC := (.seq (.ops [⟨some 2, .box (.tmp 0), none⟩, ⟨some 4, .mov (.const (.int .i64 0)), none⟩]) (.seq (.seq (.ops [⟨some 5, .mov (.const (.int .i64 0)), none⟩]) (.block 0 (.loop (.seq (.seq (.ops [⟨some 6, .mov (.tmp 5), none⟩, ⟨some 7, .bin .lss (.tmp 6) (.const (.int .i64 2)), none⟩]) (.cond (.tmp 7) .skip (.exit 0))) (.seq (.block 1 (.seq (.ops [⟨some 10, .mov (.tmp 5), none⟩, ⟨some 11, .iarr 1 2 (.tmp 2) (.tmp 10), none⟩, ⟨some 12, .load 1 false (.tmp 11), none⟩, ⟨some 13, .mov (.tmp 1), none⟩, ⟨some 14, .call 62 [(.tmp 12), (.tmp 13)], none⟩, ⟨some 1, .mov (.tmp 14), none⟩]) (.seq (.ops [⟨some 15, .mov (.tmp 1), none⟩, ⟨some 16, .bin .lss (.tmp 15) (.const (.int .i64 0)), none⟩]) (.cond (.tmp 16) (.seq (.ops [⟨some 4, .mov (.const (.int .i64 (-1))), none⟩]) .ret) .skip)))) (.ops [⟨some 8, .mov (.tmp 5), none⟩, ⟨some 9, .bin .add (.tmp 8) (.const (.int .i64 1)), none⟩, ⟨some 5, .mov (.tmp 9), none⟩])))))) (.seq (.ops [⟨some 17, .mov (.tmp 1), none⟩, ⟨some 4, .mov (.tmp 17), none⟩]) .ret)))
@[reducible] def rv44 : List RV := [.tmp 4]
theorem low44 : lowC Try.prog tau Try.f44.ntmps (Try.f44.body.getD .skip) = some (erase ic44) := by kernel_rfl
theorem res44 : lowR Try.prog Try.f44.results.toList = some rv44 := by kernel_rfl
theorem bod44 : Try.f44.body = some (Try.f44.body.getD .skip) := by kernel_rfl
theorem cal44 : callable Try.prog 44 = true := by kernel_rfl

end Go.Proofs.YtfgefmkcmkihhaaE

/-! The code of a function, in the engine's words. -/
namespace Go.Proofs.YtfgefmkcmkihhaaE
open Go Go.RowKit
@[reducible] def ic14 : IC := (.seq (.ops [⟨some 2, .box (.tmp 0), none⟩, ⟨some 4, .mov (.const (.int .i64 0)), none⟩]) (.seq (.ops [⟨some 5, .fadr 0 (.tmp 2), none⟩, ⟨some 6, .load 2 true (.tmp 5), none⟩, ⟨some 7, .mov (.tmp 1), none⟩, ⟨some 8, .call 43 [(.tmp 6), (.tmp 7)], none⟩, ⟨some 1, .mov (.tmp 8), none⟩]) (.seq (.seq (.ops [⟨some 9, .mov (.tmp 1), none⟩, ⟨some 10, .bin .lss (.tmp 9) (.const (.int .i64 0)), none⟩]) (.cond (.tmp 10) (.seq (.ops [⟨some 4, .mov (.const (.int .i64 (-1))), none⟩]) .ret) .skip)) (.seq (.ops [⟨some 11, .fadr 4 (.tmp 2), none⟩, ⟨some 12, .load 2 true (.tmp 11), none⟩, ⟨some 13, .mov (.tmp 1), none⟩, ⟨some 14, .call 44 [(.tmp 12), (.tmp 13)], none⟩, ⟨some 1, .mov (.tmp 14), none⟩]) (.seq (.seq (.ops [⟨some 15, .mov (.tmp 1), none⟩, ⟨some 16, .bin .lss (.tmp 15) (.const (.int .i64 0)), none⟩]) (.cond (.tmp 16) (.seq (.ops [⟨some 4, .mov (.const (.int .i64 (-1))), none⟩]) .ret) .skip)) (.seq (.ops [⟨some 17, .mov (.tmp 1), none⟩, ⟨some 4, .mov (.tmp 17), none⟩]) .ret))))))
@[reducible] def rv14 : List RV := [.tmp 4]
theorem low14 : lowC Try.prog tau Try.f14.ntmps (Try.f14.body.getD .skip) = some (erase ic14) := by kernel_rfl
theorem res14 : lowR Try.prog Try.f14.results.toList = some rv14 := by kernel_rfl
theorem bod14 : Try.f14.body = some (Try.f14.body.getD .skip) := by kernel_rfl
theorem cal14 : callable Try.prog 14 = true := by kernel_rfl

end Go.Proofs.YtfgefmkcmkihhaaE

/-! Marks over a Trunk. -/
namespace Go.Proofs.YtfgefmkcmkihhaaE
open Go Go.RowKit
set_option linter.unusedSimpArgs false
set_option linter.unusedVariables false
set_option maxRecDepth 20000

def heldI2 (xs ys : List Int) (k : Int) : Int := if heldI xs k < 0 then -1 else heldI ys (heldI xs k)
def spHeldInt2 : Spec := ⟨fun _ => [], fun args objs K => match args, objs with
  | [.agg [.rs .int xs, .rs .int ys], .v (.int .i64 k)], [] => (0 ≤ k ∧ k + xs.length + ys.length ≤ 1099511627776) ∧ K (.v (.int .i64 (heldI2 xs ys k))) [] 0
  | _, _ => False⟩
theorem spHeldInt2_t {a : List AVal} : spHeldInt2.take a = [] := id rfl
theorem spHeldInt2_f {xs} {ys} {k} {K : AVal → Hp → Nat → Prop} : Spec.f spHeldInt2 ([.agg [.rs .int xs, .rs .int ys], .v (.int .i64 k)]) ([]) K = ((0 ≤ k ∧ k + xs.length + ys.length ≤ 1099511627776) ∧ K (.v (.int .i64 (heldI2 xs ys k))) [] 0) := id rfl
theorem valid43 : Valid Try.prog 43 spHeldInt2 := by
  refine validI (Γ := lk [(61, spHeldIntS)]) Try.func43 bod43 low43 res43 (good_of ⟨⟨cal61, valid61⟩, trivial⟩) ?_
  intro E args objs K h hE hG hP
  simp only [spHeldInt2] at h
  split at h
  · refine ⟨by simp [Try.ntmps43], ?_⟩
    rename_i xs ys k
    obtain ⟨⟨b1, b2⟩, h⟩ := h
    simp only [heldI2] at h
    have b3 := heldI_bd (xs := xs) b1
    simp only [go_sem, hG, hP, Nat.reduceEqDiff, ↓reduceIte, reduceCtorEq, Nat.reduceAdd, Nat.reduceSub, Nat.reduceMul, Nat.reduceLT, Nat.reduceLeDiff, Int.reduceAdd, Int.reduceSub, Int.reduceMul, Int.reduceLT, Int.reduceLE, Int.reduceEq, Int.reduceNeg, Int.reduceNe, Int.reduceGE, Int.reduceGT, Nat.reduceBEq, Int.reduceToNat]
    refine unrollI hE [(), (), ()] ?_
    simp only [go_sem, hG, hP, Nat.reduceEqDiff, ↓reduceIte, reduceCtorEq, Nat.reduceAdd, Nat.reduceSub, Nat.reduceMul, Nat.reduceLT, Nat.reduceLeDiff, Int.reduceAdd, Int.reduceSub, Int.reduceMul, Int.reduceLT, Int.reduceLE, Int.reduceEq, Int.reduceNeg, Int.reduceNe, Int.reduceGE, Int.reduceGT, Nat.reduceBEq, Int.reduceToNat,  spHeldIntS_f, spHeldIntS_t]
    refine ⟨⟨by omega, b1, by omega⟩, fun h1 => ⟨_, _, _, ?_, h⟩, fun h1 => ⟨⟨by omega, by omega, by omega⟩, fun h2 => ⟨_, _, _, ?_, h⟩, fun h2 => ⟨_, _, _, ?_, h⟩⟩⟩
    · simp only [go_sem, hG, hP, Nat.reduceEqDiff, ↓reduceIte, reduceCtorEq, Nat.reduceAdd, Nat.reduceSub, Nat.reduceMul, Nat.reduceLT, Nat.reduceLeDiff, Int.reduceAdd, Int.reduceSub, Int.reduceMul, Int.reduceLT, Int.reduceLE, Int.reduceEq, Int.reduceNeg, Int.reduceNe, Int.reduceGE, Int.reduceGT, Nat.reduceBEq, Int.reduceToNat]
      rw [if_pos h1]
    · simp only [go_sem, hG, hP, Nat.reduceEqDiff, ↓reduceIte, reduceCtorEq, Nat.reduceAdd, Nat.reduceSub, Nat.reduceMul, Nat.reduceLT, Nat.reduceLeDiff, Int.reduceAdd, Int.reduceSub, Int.reduceMul, Int.reduceLT, Int.reduceLE, Int.reduceEq, Int.reduceNeg, Int.reduceNe, Int.reduceGE, Int.reduceGT, Nat.reduceBEq, Int.reduceToNat]
      rw [if_neg h1, heldI_neg (by omega) h2]
    · simp only [go_sem, hG, hP, Nat.reduceEqDiff, ↓reduceIte, reduceCtorEq, Nat.reduceAdd, Nat.reduceSub, Nat.reduceMul, Nat.reduceLT, Nat.reduceLeDiff, Int.reduceAdd, Int.reduceSub, Int.reduceMul, Int.reduceLT, Int.reduceLE, Int.reduceEq, Int.reduceNeg, Int.reduceNe, Int.reduceGE, Int.reduceGT, Nat.reduceBEq, Int.reduceToNat]
      rw [if_neg h1]
  · exact h.elim
def heldN2 (xs ys : List Note) (k : Int) : Int := if heldN xs k < 0 then -1 else heldN ys (heldN xs k)
def spHeldNote2 : Spec := ⟨fun _ => [], fun args objs K => match args, objs with
  | [.agg [.rs .note xs, .rs .note ys], .v (.int .i64 k)], [] => (0 ≤ k ∧ k + 2 * xs.length + 2 * ys.length ≤ 1099511627776) ∧ K (.v (.int .i64 (heldN2 xs ys k))) [] 0
  | _, _ => False⟩
theorem spHeldNote2_t {a : List AVal} : spHeldNote2.take a = [] := id rfl
theorem spHeldNote2_f {xs} {ys} {k} {K : AVal → Hp → Nat → Prop} : Spec.f spHeldNote2 ([.agg [.rs .note xs, .rs .note ys], .v (.int .i64 k)]) ([]) K = ((0 ≤ k ∧ k + 2 * xs.length + 2 * ys.length ≤ 1099511627776) ∧ K (.v (.int .i64 (heldN2 xs ys k))) [] 0) := id rfl
theorem valid44 : Valid Try.prog 44 spHeldNote2 := by
  refine validI (Γ := lk [(62, spHeldNoteS)]) Try.func44 bod44 low44 res44 (good_of ⟨⟨cal62, valid62⟩, trivial⟩) ?_
  intro E args objs K h hE hG hP
  simp only [spHeldNote2] at h
  split at h
  · refine ⟨by simp [Try.ntmps44], ?_⟩
    rename_i xs ys k
    obtain ⟨⟨b1, b2⟩, h⟩ := h
    simp only [heldN2] at h
    have b3 := heldN_bd (xs := xs) b1
    simp only [go_sem, hG, hP, Nat.reduceEqDiff, ↓reduceIte, reduceCtorEq, Nat.reduceAdd, Nat.reduceSub, Nat.reduceMul, Nat.reduceLT, Nat.reduceLeDiff, Int.reduceAdd, Int.reduceSub, Int.reduceMul, Int.reduceLT, Int.reduceLE, Int.reduceEq, Int.reduceNeg, Int.reduceNe, Int.reduceGE, Int.reduceGT, Nat.reduceBEq, Int.reduceToNat]
    refine unrollI hE [(), (), ()] ?_
    simp only [go_sem, hG, hP, Nat.reduceEqDiff, ↓reduceIte, reduceCtorEq, Nat.reduceAdd, Nat.reduceSub, Nat.reduceMul, Nat.reduceLT, Nat.reduceLeDiff, Int.reduceAdd, Int.reduceSub, Int.reduceMul, Int.reduceLT, Int.reduceLE, Int.reduceEq, Int.reduceNeg, Int.reduceNe, Int.reduceGE, Int.reduceGT, Nat.reduceBEq, Int.reduceToNat,  spHeldNoteS_f, spHeldNoteS_t]
    refine ⟨⟨by omega, b1, by omega⟩, fun h1 => ⟨_, _, _, ?_, h⟩, fun h1 => ⟨⟨by omega, by omega, by omega⟩, fun h2 => ⟨_, _, _, ?_, h⟩, fun h2 => ⟨_, _, _, ?_, h⟩⟩⟩
    · simp only [go_sem, hG, hP, Nat.reduceEqDiff, ↓reduceIte, reduceCtorEq, Nat.reduceAdd, Nat.reduceSub, Nat.reduceMul, Nat.reduceLT, Nat.reduceLeDiff, Int.reduceAdd, Int.reduceSub, Int.reduceMul, Int.reduceLT, Int.reduceLE, Int.reduceEq, Int.reduceNeg, Int.reduceNe, Int.reduceGE, Int.reduceGT, Nat.reduceBEq, Int.reduceToNat]
      rw [if_pos h1]
    · simp only [go_sem, hG, hP, Nat.reduceEqDiff, ↓reduceIte, reduceCtorEq, Nat.reduceAdd, Nat.reduceSub, Nat.reduceMul, Nat.reduceLT, Nat.reduceLeDiff, Int.reduceAdd, Int.reduceSub, Int.reduceMul, Int.reduceLT, Int.reduceLE, Int.reduceEq, Int.reduceNeg, Int.reduceNe, Int.reduceGE, Int.reduceGT, Nat.reduceBEq, Int.reduceToNat]
      rw [if_neg h1, heldN_neg (by omega) h2]
    · simp only [go_sem, hG, hP, Nat.reduceEqDiff, ↓reduceIte, reduceCtorEq, Nat.reduceAdd, Nat.reduceSub, Nat.reduceMul, Nat.reduceLT, Nat.reduceLeDiff, Int.reduceAdd, Int.reduceSub, Int.reduceMul, Int.reduceLT, Int.reduceLE, Int.reduceEq, Int.reduceNeg, Int.reduceNe, Int.reduceGE, Int.reduceGT, Nat.reduceBEq, Int.reduceToNat]
      rw [if_neg h1]
  · exact h.elim
end Go.Proofs.YtfgefmkcmkihhaaE

/-! Marks are laid over a Trunk, and held. -/
namespace Go.Proofs.YtfgefmkcmkihhaaE
open Go Go.RowKit
set_option linter.unusedSimpArgs false
set_option linter.unusedVariables false
set_option maxRecDepth 20000

def takeA2 : List AVal → List Nat
  | .agg [.sub m _ _ _, .sub m' _ _ _] :: _ => [m, m']
  | _ => []
theorem takeA2_eq {m z lo len m' z' lo' len' : Nat} {r : List AVal} : takeA2 (.agg [.sub m z lo len, .sub m' z' lo' len'] :: r) = [m, m'] := id rfl
def spMarkInt2 : Spec := ⟨takeA2, fun args objs K => match args, objs with
  | [.agg [.sub 0 1 0 n, .sub 1 1 0 n'], .v (.int .i64 k)], [.row .int xs, .row .int ys] => (n = xs.length ∧ n' = ys.length ∧ 0 ≤ k ∧ k + xs.length + ys.length ≤ 1099511627776) ∧
      K (.v (.int .i64 (k + xs.length + ys.length))) [(0, .row .int (intMarks k xs.length)), (1, .row .int (intMarks (k + xs.length) ys.length))] 2
  | _, _ => False⟩
theorem spMarkInt2_t {a : List AVal} : spMarkInt2.take a = takeA2 a := id rfl
theorem spMarkInt2_f {n} {n'} {k} {xs} {ys} {K : AVal → Hp → Nat → Prop} : Spec.f spMarkInt2 ([.agg [.sub 0 1 0 n, .sub 1 1 0 n'], .v (.int .i64 k)]) ([.row .int xs, .row .int ys]) K = ((n = xs.length ∧ n' = ys.length ∧ 0 ≤ k ∧ k + xs.length + ys.length ≤ 1099511627776) ∧
      K (.v (.int .i64 (k + xs.length + ys.length))) [(0, .row .int (intMarks k xs.length)), (1, .row .int (intMarks (k + xs.length) ys.length))] 2) := id rfl
theorem take1_eq {m z lo len : Nat} {r : List AVal} : take1 (.sub m z lo len :: r) = [m] := id rfl
theorem valid41 : Valid Try.prog 41 spMarkInt2 := by
  refine validI (Γ := lk [(59, spMarkIntS)]) Try.func41 bod41 low41 res41 (good_of ⟨⟨cal59, valid59⟩, trivial⟩) ?_
  intro E args objs K h hE hG hP
  simp only [spMarkInt2] at h
  split at h
  · refine ⟨by simp [Try.ntmps41], ?_⟩
    rename_i n n' k xs ys
    obtain ⟨⟨rfl, rfl, b1, b2⟩, h⟩ := h
    simp only [go_sem, hG, hP, Nat.reduceEqDiff, ↓reduceIte, reduceCtorEq, Nat.reduceAdd, Nat.reduceSub, Nat.reduceMul, Nat.reduceLT, Nat.reduceLeDiff, Int.reduceAdd, Int.reduceSub, Int.reduceMul, Int.reduceLT, Int.reduceLE, Int.reduceEq, Int.reduceNeg, Int.reduceNe, Int.reduceGE, Int.reduceGT, Nat.reduceBEq, Int.reduceToNat]
    refine unrollI hE [(), (), ()] ?_
    simp only [go_sem, hG, hP, Nat.reduceEqDiff, ↓reduceIte, reduceCtorEq, Nat.reduceAdd, Nat.reduceSub, Nat.reduceMul, Nat.reduceLT, Nat.reduceLeDiff, Int.reduceAdd, Int.reduceSub, Int.reduceMul, Int.reduceLT, Int.reduceLE, Int.reduceEq, Int.reduceNeg, Int.reduceNe, Int.reduceGE, Int.reduceGT, Nat.reduceBEq, Int.reduceToNat,  spMarkIntS_f, spMarkIntS_t, take1_eq]
    repeat (refine And.intro (by first | omega | (simp; done) | (simp; omega) | (unfold appRoom; omega)) ?_)
    refine ⟨_, _, _, ?_, h⟩
    simp only [go_sem, hG, hP, Nat.reduceEqDiff, ↓reduceIte, reduceCtorEq, Nat.reduceAdd, Nat.reduceSub, Nat.reduceMul, Nat.reduceLT, Nat.reduceLeDiff, Int.reduceAdd, Int.reduceSub, Int.reduceMul, Int.reduceLT, Int.reduceLE, Int.reduceEq, Int.reduceNeg, Int.reduceNe, Int.reduceGE, Int.reduceGT, Nat.reduceBEq, Int.reduceToNat]
    all_goals simp
  · exact h.elim
def spMarkNote2 : Spec := ⟨takeA2, fun args objs K => match args, objs with
  | [.agg [.sub 0 2 0 n, .sub 1 2 0 n'], .v (.int .i64 k)], [.row .note xs, .row .note ys] => (n = xs.length ∧ n' = ys.length ∧ 0 ≤ k ∧ k + 2 * xs.length + 2 * ys.length ≤ 1099511627776) ∧
      K (.v (.int .i64 (k + 2 * xs.length + 2 * ys.length))) [(0, .row .note (noteMarks k xs.length)), (1, .row .note (noteMarks (k + 2 * xs.length) ys.length))] 2
  | _, _ => False⟩
theorem spMarkNote2_t {a : List AVal} : spMarkNote2.take a = takeA2 a := id rfl
theorem spMarkNote2_f {n} {n'} {k} {xs} {ys} {K : AVal → Hp → Nat → Prop} : Spec.f spMarkNote2 ([.agg [.sub 0 2 0 n, .sub 1 2 0 n'], .v (.int .i64 k)]) ([.row .note xs, .row .note ys]) K = ((n = xs.length ∧ n' = ys.length ∧ 0 ≤ k ∧ k + 2 * xs.length + 2 * ys.length ≤ 1099511627776) ∧
      K (.v (.int .i64 (k + 2 * xs.length + 2 * ys.length))) [(0, .row .note (noteMarks k xs.length)), (1, .row .note (noteMarks (k + 2 * xs.length) ys.length))] 2) := id rfl
theorem valid42 : Valid Try.prog 42 spMarkNote2 := by
  refine validI (Γ := lk [(60, spMarkNoteS)]) Try.func42 bod42 low42 res42 (good_of ⟨⟨cal60, valid60⟩, trivial⟩) ?_
  intro E args objs K h hE hG hP
  simp only [spMarkNote2] at h
  split at h
  · refine ⟨by simp [Try.ntmps42], ?_⟩
    rename_i n n' k xs ys
    obtain ⟨⟨rfl, rfl, b1, b2⟩, h⟩ := h
    simp only [go_sem, hG, hP, Nat.reduceEqDiff, ↓reduceIte, reduceCtorEq, Nat.reduceAdd, Nat.reduceSub, Nat.reduceMul, Nat.reduceLT, Nat.reduceLeDiff, Int.reduceAdd, Int.reduceSub, Int.reduceMul, Int.reduceLT, Int.reduceLE, Int.reduceEq, Int.reduceNeg, Int.reduceNe, Int.reduceGE, Int.reduceGT, Nat.reduceBEq, Int.reduceToNat]
    refine unrollI hE [(), (), ()] ?_
    simp only [go_sem, hG, hP, Nat.reduceEqDiff, ↓reduceIte, reduceCtorEq, Nat.reduceAdd, Nat.reduceSub, Nat.reduceMul, Nat.reduceLT, Nat.reduceLeDiff, Int.reduceAdd, Int.reduceSub, Int.reduceMul, Int.reduceLT, Int.reduceLE, Int.reduceEq, Int.reduceNeg, Int.reduceNe, Int.reduceGE, Int.reduceGT, Nat.reduceBEq, Int.reduceToNat,  spMarkNoteS_f, spMarkNoteS_t, take1_eq]
    repeat (refine And.intro (by first | omega | (simp; done) | (simp; omega) | (unfold appRoom; omega)) ?_)
    refine ⟨_, _, _, ?_, h⟩
    simp only [go_sem, hG, hP, Nat.reduceEqDiff, ↓reduceIte, reduceCtorEq, Nat.reduceAdd, Nat.reduceSub, Nat.reduceMul, Nat.reduceLT, Nat.reduceLeDiff, Int.reduceAdd, Int.reduceSub, Int.reduceMul, Int.reduceLT, Int.reduceLE, Int.reduceEq, Int.reduceNeg, Int.reduceNe, Int.reduceGE, Int.reduceGT, Nat.reduceBEq, Int.reduceToNat]
    all_goals simp
  · exact h.elim
def takeA6 : List AVal → List Nat
  | .agg [.sub a _ _ _, .sub b _ _ _, _, _, .sub c _ _ _, .sub d _ _ _] :: _ => [a, b, c, d]
  | _ => []
theorem takeA6_eq {a b c d z1 z2 z3 z4 l1 l2 l3 l4 n1 n2 n3 n4 : Nat} {x y : AVal} {r : List AVal} : takeA6 (.agg [.sub a z1 l1 n1, .sub b z2 l2 n2, x, y, .sub c z3 l3 n3, .sub d z4 l4 n4] :: r) = [a, b, c, d] := id rfl
/-- A Trunk, as plain lists. -/
structure Tr where
  c0 : List Int
  c1 : List Int
  x : Int
  y : Int
  q0 : List Note
  q1 : List Note
def markEnd (t : Tr) (k : Int) : Int := k + t.c0.length + t.c1.length + 2 * t.q0.length + 2 * t.q1.length
def marked (t : Tr) (k : Int) : Tr := ⟨intMarks k t.c0.length, intMarks (k + t.c0.length) t.c1.length, t.x, t.y, noteMarks (k + t.c0.length + t.c1.length) t.q0.length, noteMarks (k + t.c0.length + t.c1.length + 2 * t.q0.length) t.q1.length⟩
def spMarkTr : Spec := ⟨takeA6, fun args objs K => match args, objs with
  | [.agg [.sub 0 1 0 n0, .sub 1 1 0 n1, .v (.int .i64 x), .v (.int .i64 y), .sub 2 2 0 n2, .sub 3 2 0 n3], .v (.int .i64 k)], [.row .int c0, .row .int c1, .row .note q0, .row .note q1] =>
      (n0 = c0.length ∧ n1 = c1.length ∧ n2 = q0.length ∧ n3 = q1.length ∧ 0 ≤ k ∧ markEnd ⟨c0, c1, x, y, q0, q1⟩ k ≤ 1099511627776) ∧
      K (.v (.int .i64 (markEnd ⟨c0, c1, x, y, q0, q1⟩ k))) [(0, .row .int (marked ⟨c0, c1, x, y, q0, q1⟩ k).c0), (1, .row .int (marked ⟨c0, c1, x, y, q0, q1⟩ k).c1), (2, .row .note (marked ⟨c0, c1, x, y, q0, q1⟩ k).q0), (3, .row .note (marked ⟨c0, c1, x, y, q0, q1⟩ k).q1)] 4
  | _, _ => False⟩
theorem spMarkTr_t {a : List AVal} : spMarkTr.take a = takeA6 a := id rfl
theorem spMarkTr_f {n0} {n1} {x} {y} {n2} {n3} {k} {c0} {c1} {q0} {q1} {K : AVal → Hp → Nat → Prop} : Spec.f spMarkTr ([.agg [.sub 0 1 0 n0, .sub 1 1 0 n1, .v (.int .i64 x), .v (.int .i64 y), .sub 2 2 0 n2, .sub 3 2 0 n3], .v (.int .i64 k)]) ([.row .int c0, .row .int c1, .row .note q0, .row .note q1]) K = ((n0 = c0.length ∧ n1 = c1.length ∧ n2 = q0.length ∧ n3 = q1.length ∧ 0 ≤ k ∧ markEnd ⟨c0, c1, x, y, q0, q1⟩ k ≤ 1099511627776) ∧
      K (.v (.int .i64 (markEnd ⟨c0, c1, x, y, q0, q1⟩ k))) [(0, .row .int (marked ⟨c0, c1, x, y, q0, q1⟩ k).c0), (1, .row .int (marked ⟨c0, c1, x, y, q0, q1⟩ k).c1), (2, .row .note (marked ⟨c0, c1, x, y, q0, q1⟩ k).q0), (3, .row .note (marked ⟨c0, c1, x, y, q0, q1⟩ k).q1)] 4) := id rfl
theorem valid13 : Valid Try.prog 13 spMarkTr := by
  refine validI (Γ := lk [(41, spMarkInt2), (42, spMarkNote2)]) Try.func13 bod13 low13 res13 (good_of ⟨⟨cal41, valid41⟩, ⟨cal42, valid42⟩, trivial⟩) ?_
  intro E args objs K h hE hG hP
  simp only [spMarkTr] at h
  split at h
  · refine ⟨by simp [Try.ntmps13], ?_⟩
    rename_i n0 n1 x y n2 n3 k c0 c1 q0 q1
    obtain ⟨⟨rfl, rfl, rfl, rfl, b1, b2⟩, h⟩ := h
    simp only [markEnd, marked] at b2 h
    simp only [go_sem, hG, hP, Nat.reduceEqDiff, ↓reduceIte, reduceCtorEq, Nat.reduceAdd, Nat.reduceSub, Nat.reduceMul, Nat.reduceLT, Nat.reduceLeDiff, Int.reduceAdd, Int.reduceSub, Int.reduceMul, Int.reduceLT, Int.reduceLE, Int.reduceEq, Int.reduceNeg, Int.reduceNe, Int.reduceGE, Int.reduceGT, Nat.reduceBEq, Int.reduceToNat,  spMarkInt2_f, spMarkInt2_t, spMarkNote2_f, spMarkNote2_t, takeA2_eq]
    repeat (refine And.intro (by first | omega | (simp; done) | (simp; omega) | (unfold appRoom; omega)) ?_)
    refine ⟨_, _, _, ?_, h⟩
    simp only [go_sem, hG, hP, Nat.reduceEqDiff, ↓reduceIte, reduceCtorEq, Nat.reduceAdd, Nat.reduceSub, Nat.reduceMul, Nat.reduceLT, Nat.reduceLeDiff, Int.reduceAdd, Int.reduceSub, Int.reduceMul, Int.reduceLT, Int.reduceLE, Int.reduceEq, Int.reduceNeg, Int.reduceNe, Int.reduceGE, Int.reduceGT, Nat.reduceBEq, Int.reduceToNat]
    all_goals simp
  · exact h.elim
def heldTr (t : Tr) (k : Int) : Int := if heldI2 t.c0 t.c1 k < 0 then -1 else heldN2 t.q0 t.q1 (heldI2 t.c0 t.c1 k)
theorem heldI2_bd {xs ys : List Int} {k : Int} (h0 : 0 ≤ k) : heldI2 xs ys k ≤ k + xs.length + ys.length := by
  have := heldI_bd (xs := xs) h0
  unfold heldI2; split
  · omega
  · have := heldI_bd (xs := ys) (k := heldI xs k) (by omega); omega
theorem heldI2_neg {xs ys : List Int} {k : Int} (h : heldI2 xs ys k < 0) : heldI2 xs ys k = -1 := by
  unfold heldI2 at h ⊢; split at h <;> rename_i h2
  · rw [if_pos h2]
  · rw [if_neg h2]; exact heldI_neg (by omega) h
theorem heldN2_neg {xs ys : List Note} {k : Int} (h : heldN2 xs ys k < 0) : heldN2 xs ys k = -1 := by
  unfold heldN2 at h ⊢; split at h <;> rename_i h2
  · rw [if_pos h2]
  · rw [if_neg h2]; exact heldN_neg (by omega) h
def spHeldTr : Spec := ⟨fun _ => [], fun args objs K => match args, objs with
  | [.agg [.rs .int c0, .rs .int c1, .v (.int .i64 x), .v (.int .i64 y), .rs .note q0, .rs .note q1], .v (.int .i64 k)], [] =>
      (0 ≤ k ∧ markEnd ⟨c0, c1, x, y, q0, q1⟩ k ≤ 1099511627776) ∧ K (.v (.int .i64 (heldTr ⟨c0, c1, x, y, q0, q1⟩ k))) [] 0
  | _, _ => False⟩
theorem spHeldTr_t {a : List AVal} : spHeldTr.take a = [] := id rfl
theorem spHeldTr_f {c0} {c1} {x} {y} {q0} {q1} {k} {K : AVal → Hp → Nat → Prop} : Spec.f spHeldTr ([.agg [.rs .int c0, .rs .int c1, .v (.int .i64 x), .v (.int .i64 y), .rs .note q0, .rs .note q1], .v (.int .i64 k)]) ([]) K = ((0 ≤ k ∧ markEnd ⟨c0, c1, x, y, q0, q1⟩ k ≤ 1099511627776) ∧ K (.v (.int .i64 (heldTr ⟨c0, c1, x, y, q0, q1⟩ k))) [] 0) := id rfl
theorem valid14 : Valid Try.prog 14 spHeldTr := by
  refine validI (Γ := lk [(43, spHeldInt2), (44, spHeldNote2)]) Try.func14 bod14 low14 res14 (good_of ⟨⟨cal43, valid43⟩, ⟨cal44, valid44⟩, trivial⟩) ?_
  intro E args objs K h hE hG hP
  simp only [spHeldTr] at h
  split at h
  · refine ⟨by simp [Try.ntmps14], ?_⟩
    rename_i c0 c1 x y q0 q1 k
    obtain ⟨⟨b1, b2⟩, h⟩ := h
    simp only [markEnd, heldTr] at b2 h
    have b7 := heldI2_bd (xs := c0) (ys := c1) b1
    simp only [go_sem, hG, hP, Nat.reduceEqDiff, ↓reduceIte, reduceCtorEq, Nat.reduceAdd, Nat.reduceSub, Nat.reduceMul, Nat.reduceLT, Nat.reduceLeDiff, Int.reduceAdd, Int.reduceSub, Int.reduceMul, Int.reduceLT, Int.reduceLE, Int.reduceEq, Int.reduceNeg, Int.reduceNe, Int.reduceGE, Int.reduceGT, Nat.reduceBEq, Int.reduceToNat,  spHeldInt2_f, spHeldInt2_t, spHeldNote2_f, spHeldNote2_t]
    refine ⟨⟨b1, by omega⟩, fun h1 => ⟨_, _, _, ?_, h⟩, fun h1 => ⟨⟨by omega, by omega⟩, fun h2 => ⟨_, _, _, ?_, h⟩, fun h2 => ⟨_, _, _, ?_, h⟩⟩⟩
    · simp only [go_sem, hG, hP, Nat.reduceEqDiff, ↓reduceIte, reduceCtorEq, Nat.reduceAdd, Nat.reduceSub, Nat.reduceMul, Nat.reduceLT, Nat.reduceLeDiff, Int.reduceAdd, Int.reduceSub, Int.reduceMul, Int.reduceLT, Int.reduceLE, Int.reduceEq, Int.reduceNeg, Int.reduceNe, Int.reduceGE, Int.reduceGT, Nat.reduceBEq, Int.reduceToNat]
      rw [if_pos h1]
    · simp only [go_sem, hG, hP, Nat.reduceEqDiff, ↓reduceIte, reduceCtorEq, Nat.reduceAdd, Nat.reduceSub, Nat.reduceMul, Nat.reduceLT, Nat.reduceLeDiff, Int.reduceAdd, Int.reduceSub, Int.reduceMul, Int.reduceLT, Int.reduceLE, Int.reduceEq, Int.reduceNeg, Int.reduceNe, Int.reduceGE, Int.reduceGT, Nat.reduceBEq, Int.reduceToNat]
      rw [if_neg h1, heldN2_neg h2]
    · simp only [go_sem, hG, hP, Nat.reduceEqDiff, ↓reduceIte, reduceCtorEq, Nat.reduceAdd, Nat.reduceSub, Nat.reduceMul, Nat.reduceLT, Nat.reduceLeDiff, Int.reduceAdd, Int.reduceSub, Int.reduceMul, Int.reduceLT, Int.reduceLE, Int.reduceEq, Int.reduceNeg, Int.reduceNe, Int.reduceGE, Int.reduceGT, Nat.reduceBEq, Int.reduceToNat]
      rw [if_neg h1]
  · exact h.elim
end Go.Proofs.YtfgefmkcmkihhaaE

/-! The code of a function, in the engine's words. -/
namespace Go.Proofs.YtfgefmkcmkihhaaE
open Go Go.RowKit
@[reducible] def ic55 : IC := (.seq (.ops [⟨some 2, .mov (.const (.slice none 0 0)), none⟩]) (.seq (.seq (.ops [⟨some 3, .mov (.tmp 0), none⟩, ⟨some 4, .snil false (.tmp 3), none⟩]) (.cond (.tmp 4) (.seq (.ops [⟨some 2, .mov (.const (.slice none 0 0)), none⟩]) .ret) .skip)) (.seq (.ops [⟨some 5, .blds .int 0 [], none⟩, ⟨some 6, .mov (.tmp 0), none⟩, ⟨some 7, .app .int 8 (.tmp 5) (.tmp 6), none⟩, ⟨some 2, .mov (.tmp 7), none⟩]) .ret)))
@[reducible] def rv55 : List RV := [.tmp 2]
theorem low55 : lowC Try.prog tau Try.f55.ntmps (Try.f55.body.getD .skip) = some (erase ic55) := by kernel_rfl
theorem res55 : lowR Try.prog Try.f55.results.toList = some rv55 := by kernel_rfl
theorem bod55 : Try.f55.body = some (Try.f55.body.getD .skip) := by kernel_rfl
theorem cal55 : callable Try.prog 55 = true := by kernel_rfl

end Go.Proofs.YtfgefmkcmkihhaaE

/-! The code of a function, in the engine's words. -/
namespace Go.Proofs.YtfgefmkcmkihhaaE
open Go Go.RowKit
@[reducible] def ic56 : IC := (.seq (.ops [⟨some 2, .mov (.const (.slice none 0 0)), none⟩]) (.seq (.seq (.ops [⟨some 3, .mov (.tmp 0), none⟩, ⟨some 4, .snil false (.tmp 3), none⟩]) (.cond (.tmp 4) (.seq (.ops [⟨some 2, .mov (.const (.slice none 0 0)), none⟩]) .ret) .skip)) (.seq (.ops [⟨some 5, .blds .note 0 [], none⟩, ⟨some 6, .mov (.tmp 0), none⟩, ⟨some 7, .app .note 16 (.tmp 5) (.tmp 6), none⟩, ⟨some 2, .mov (.tmp 7), none⟩]) .ret)))
@[reducible] def rv56 : List RV := [.tmp 2]
theorem low56 : lowC Try.prog tau Try.f56.ntmps (Try.f56.body.getD .skip) = some (erase ic56) := by kernel_rfl
theorem res56 : lowR Try.prog Try.f56.results.toList = some rv56 := by kernel_rfl
theorem bod56 : Try.f56.body = some (Try.f56.body.getD .skip) := by kernel_rfl
theorem cal56 : callable Try.prog 56 = true := by kernel_rfl

end Go.Proofs.YtfgefmkcmkihhaaE

/-! The code of a function, in the engine's words. -/
namespace Go.Proofs.YtfgefmkcmkihhaaE
open Go Go.RowKit
@[reducible] def ic45 : IC := (.seq (.ops [⟨some 2, .mov (.const (.int .i64 0)), none⟩]) (.seq (.ops [⟨some 3, .mov (.tmp 0), none⟩, ⟨some 4, .bin .rem (.tmp 3) (.const (.int .i64 2)), none⟩, ⟨some 2, .mov (.tmp 4), none⟩]) .ret))
@[reducible] def rv45 : List RV := [.tmp 2]
theorem low45 : lowC Try.prog tau Try.f45.ntmps (Try.f45.body.getD .skip) = some (erase ic45) := by kernel_rfl
theorem res45 : lowR Try.prog Try.f45.results.toList = some rv45 := by kernel_rfl
theorem bod45 : Try.f45.body = some (Try.f45.body.getD .skip) := by kernel_rfl
theorem cal45 : callable Try.prog 45 = true := by kernel_rfl

end Go.Proofs.YtfgefmkcmkihhaaE

/-! The code of a function, in the engine's words. -/
namespace Go.Proofs.YtfgefmkcmkihhaaE
open Go Go.RowKit
@[reducible] def ic35 : IC := (.seq (.ops [⟨some 1, .box (.tmp 0), none⟩, ⟨some 2, .new [(.slice none 0 0), (.slice none 0 0), (.int .i64 0), (.int .i64 0), (.slice none 0 0), (.slice none 0 0)], none⟩]) (.seq (.seq (.ops [⟨some 4, .mov (.const (.int .i64 0)), none⟩]) (.block 0 (.loop (.seq (.ops [⟨some 5, .bin .lss (.tmp 4) (.const (.int .i64 2)), none⟩]) (.seq (.cond (.tmp 5) .skip (.exit 0)) (.seq (.block 1 (.seq (.ops [⟨some 6, .mov (.tmp 4), none⟩, ⟨some 3, .mov (.tmp 6), none⟩]) (.seq (.ops [⟨some 7, .mov (.tmp 3), none⟩, ⟨some 8, .mov (.tmp 3), none⟩, ⟨some 9, .fadr 0 (.tmp 1), none⟩, ⟨some 10, .iarr 1 2 (.tmp 9) (.tmp 8), none⟩, ⟨some 11, .load 1 false (.tmp 10), none⟩, ⟨some 12, .call 55 [(.tmp 11)], none⟩, ⟨some 13, .fadr 0 (.tmp 1), none⟩, ⟨some 14, .iarr 1 2 (.tmp 13) (.tmp 7), none⟩, ⟨none, .store 1 (.tmp 14) (.tmp 12), none⟩]) (.ops [⟨some 15, .mov (.tmp 3), none⟩, ⟨some 16, .mov (.tmp 3), none⟩, ⟨some 17, .fadr 4 (.tmp 1), none⟩, ⟨some 18, .iarr 1 2 (.tmp 17) (.tmp 16), none⟩, ⟨some 19, .load 1 false (.tmp 18), none⟩, ⟨some 20, .call 56 [(.tmp 19)], none⟩, ⟨some 21, .fadr 4 (.tmp 1), none⟩, ⟨some 22, .iarr 1 2 (.tmp 21) (.tmp 15), none⟩, ⟨none, .store 1 (.tmp 22) (.tmp 20), none⟩])))) (.ops [⟨some 23, .bin .add (.tmp 4) (.const (.int .i64 1)), none⟩, ⟨some 4, .mov (.tmp 23), none⟩]))))))) (.seq (.ops [⟨some 24, .load 6 true (.tmp 1), none⟩, ⟨none, .store 6 (.tmp 2) (.tmp 24), none⟩]) .ret)))
@[reducible] def rv35 : List RV := [.cell 2 6 true]
theorem low35 : lowC Try.prog tau Try.f35.ntmps (Try.f35.body.getD .skip) = some (erase ic35) := by kernel_rfl
theorem res35 : lowR Try.prog Try.f35.results.toList = some rv35 := by kernel_rfl
theorem bod35 : Try.f35.body = some (Try.f35.body.getD .skip) := by kernel_rfl
theorem cal35 : callable Try.prog 35 = true := by kernel_rfl

end Go.Proofs.YtfgefmkcmkihhaaE

/-! The code of a function, in the engine's words. -/
namespace Go.Proofs.YtfgefmkcmkihhaaE
open Go Go.RowKit
@[reducible] def ic29 : IC := (.seq (.ops [⟨some 1, .box (.tmp 0), none⟩, ⟨some 2, .new [(.slice none 0 0), (.slice none 0 0), (.int .i64 0), (.int .i64 0), (.slice none 0 0), (.slice none 0 0)], none⟩]) (.seq (.seq (.ops [⟨some 3, .mov (.const (.int .i64 0)), none⟩]) (.block 0 (.loop (.seq (.seq (.ops [⟨some 4, .mov (.tmp 3), none⟩, ⟨some 5, .bin .lss (.tmp 4) (.const (.int .i64 2)), none⟩]) (.cond (.tmp 5) .skip (.exit 0))) (.seq (.block 1 (.seq (.ops [⟨some 8, .mov (.tmp 3), none⟩, ⟨some 9, .blds .int 0 [], none⟩, ⟨some 10, .mov (.tmp 3), none⟩, ⟨some 11, .fadr 0 (.tmp 1), none⟩, ⟨some 12, .iarr 1 2 (.tmp 11) (.tmp 10), none⟩, ⟨some 13, .load 1 false (.tmp 12), none⟩, ⟨some 14, .app .int 8 (.tmp 9) (.tmp 13), none⟩, ⟨some 15, .fadr 0 (.tmp 1), none⟩, ⟨some 16, .iarr 1 2 (.tmp 15) (.tmp 8), none⟩, ⟨none, .store 1 (.tmp 16) (.tmp 14), none⟩]) (.ops [⟨some 17, .mov (.tmp 3), none⟩, ⟨some 18, .blds .note 0 [], none⟩, ⟨some 19, .mov (.tmp 3), none⟩, ⟨some 20, .fadr 4 (.tmp 1), none⟩, ⟨some 21, .iarr 1 2 (.tmp 20) (.tmp 19), none⟩, ⟨some 22, .load 1 false (.tmp 21), none⟩, ⟨some 23, .app .note 16 (.tmp 18) (.tmp 22), none⟩, ⟨some 24, .fadr 4 (.tmp 1), none⟩, ⟨some 25, .iarr 1 2 (.tmp 24) (.tmp 17), none⟩, ⟨none, .store 1 (.tmp 25) (.tmp 23), none⟩]))) (.ops [⟨some 6, .mov (.tmp 3), none⟩, ⟨some 7, .bin .add (.tmp 6) (.const (.int .i64 1)), none⟩, ⟨some 3, .mov (.tmp 7), none⟩])))))) (.seq (.ops [⟨some 26, .load 6 true (.tmp 1), none⟩, ⟨none, .store 6 (.tmp 2) (.tmp 26), none⟩]) .ret)))
@[reducible] def rv29 : List RV := [.cell 2 6 true]
theorem low29 : lowC Try.prog tau Try.f29.ntmps (Try.f29.body.getD .skip) = some (erase ic29) := by kernel_rfl
theorem res29 : lowR Try.prog Try.f29.results.toList = some rv29 := by kernel_rfl
theorem bod29 : Try.f29.body = some (Try.f29.body.getD .skip) := by kernel_rfl
theorem cal29 : callable Try.prog 29 = true := by kernel_rfl

end Go.Proofs.YtfgefmkcmkihhaaE

/-! Copies of a Trunk, and a note that is put on its way. -/
namespace Go.Proofs.YtfgefmkcmkihhaaE
open Go Go.RowKit
set_option linter.unusedSimpArgs false
set_option linter.unusedVariables false
set_option maxRecDepth 20000

def spCloneI : Spec := ⟨fun _ => [], fun args objs K => match args, objs with
  | [.rs .int xs], [] => xs.length ≤ 1099511627776 ∧ K (.sub 0 1 0 xs.length) [(0, .row .int xs)] 1
  | _, _ => False⟩
theorem spCloneI_t {a : List AVal} : spCloneI.take a = [] := id rfl
theorem spCloneI_f {xs} {K : AVal → Hp → Nat → Prop} : Spec.f spCloneI ([.rs .int xs]) ([]) K = (xs.length ≤ 1099511627776 ∧ K (.sub 0 1 0 xs.length) [(0, .row .int xs)] 1) := id rfl
theorem valid55 : Valid Try.prog 55 spCloneI := by
  refine validI (Γ := lk []) Try.func55 bod55 low55 res55 (good_of trivial) ?_
  intro E args objs K h hE hG hP
  simp only [spCloneI] at h
  split at h
  · refine ⟨by simp [Try.ntmps55], ?_⟩
    rename_i xs
    obtain ⟨b1, h⟩ := h
    simp only [go_sem, hG, hP, Nat.reduceEqDiff, ↓reduceIte, reduceCtorEq, Nat.reduceAdd, Nat.reduceSub, Nat.reduceMul, Nat.reduceLT, Nat.reduceLeDiff, Int.reduceAdd, Int.reduceSub, Int.reduceMul, Int.reduceLT, Int.reduceLE, Int.reduceEq, Int.reduceNeg, Int.reduceNe, Int.reduceGE, Int.reduceGT, Nat.reduceBEq, Int.reduceToNat]
    repeat (refine And.intro (by first | omega | (simp; done) | (simp; omega) | (unfold appRoom; omega)) ?_)
    intro b hb
    refine ⟨fun e => ⟨_, _, _, ?_, h⟩, fun e => ?_⟩
    · rw [hb e]
      simp only [go_sem, hG, hP, Nat.reduceEqDiff, ↓reduceIte, reduceCtorEq, Nat.reduceAdd, Nat.reduceSub, Nat.reduceMul, Nat.reduceLT, Nat.reduceLeDiff, Int.reduceAdd, Int.reduceSub, Int.reduceMul, Int.reduceLT, Int.reduceLE, Int.reduceEq, Int.reduceNeg, Int.reduceNe, Int.reduceGE, Int.reduceGT, Nat.reduceBEq, Int.reduceToNat]
      all_goals simp
    · refine ⟨by simp only [appRoom]; omega, ⟨_, _, _, ?_, h⟩⟩
      simp only [go_sem, hG, hP, Nat.reduceEqDiff, ↓reduceIte, reduceCtorEq, Nat.reduceAdd, Nat.reduceSub, Nat.reduceMul, Nat.reduceLT, Nat.reduceLeDiff, Int.reduceAdd, Int.reduceSub, Int.reduceMul, Int.reduceLT, Int.reduceLE, Int.reduceEq, Int.reduceNeg, Int.reduceNe, Int.reduceGE, Int.reduceGT, Nat.reduceBEq, Int.reduceToNat]
      all_goals simp
  · exact h.elim
def spCloneN : Spec := ⟨fun _ => [], fun args objs K => match args, objs with
  | [.rs .note xs], [] => xs.length ≤ 1099511627776 ∧ K (.sub 0 2 0 xs.length) [(0, .row .note xs)] 1
  | _, _ => False⟩
theorem spCloneN_t {a : List AVal} : spCloneN.take a = [] := id rfl
theorem spCloneN_f {xs} {K : AVal → Hp → Nat → Prop} : Spec.f spCloneN ([.rs .note xs]) ([]) K = (xs.length ≤ 1099511627776 ∧ K (.sub 0 2 0 xs.length) [(0, .row .note xs)] 1) := id rfl
theorem valid56 : Valid Try.prog 56 spCloneN := by
  refine validI (Γ := lk []) Try.func56 bod56 low56 res56 (good_of trivial) ?_
  intro E args objs K h hE hG hP
  simp only [spCloneN] at h
  split at h
  · refine ⟨by simp [Try.ntmps56], ?_⟩
    rename_i xs
    obtain ⟨b1, h⟩ := h
    simp only [go_sem, hG, hP, Nat.reduceEqDiff, ↓reduceIte, reduceCtorEq, Nat.reduceAdd, Nat.reduceSub, Nat.reduceMul, Nat.reduceLT, Nat.reduceLeDiff, Int.reduceAdd, Int.reduceSub, Int.reduceMul, Int.reduceLT, Int.reduceLE, Int.reduceEq, Int.reduceNeg, Int.reduceNe, Int.reduceGE, Int.reduceGT, Nat.reduceBEq, Int.reduceToNat]
    repeat (refine And.intro (by first | omega | (simp; done) | (simp; omega) | (unfold appRoom; omega)) ?_)
    intro b hb
    refine ⟨fun e => ⟨_, _, _, ?_, h⟩, fun e => ?_⟩
    · rw [hb e]
      simp only [go_sem, hG, hP, Nat.reduceEqDiff, ↓reduceIte, reduceCtorEq, Nat.reduceAdd, Nat.reduceSub, Nat.reduceMul, Nat.reduceLT, Nat.reduceLeDiff, Int.reduceAdd, Int.reduceSub, Int.reduceMul, Int.reduceLT, Int.reduceLE, Int.reduceEq, Int.reduceNeg, Int.reduceNe, Int.reduceGE, Int.reduceGT, Nat.reduceBEq, Int.reduceToNat]
      all_goals simp
    · refine ⟨by simp only [appRoom]; omega, ⟨_, _, _, ?_, h⟩⟩
      simp only [go_sem, hG, hP, Nat.reduceEqDiff, ↓reduceIte, reduceCtorEq, Nat.reduceAdd, Nat.reduceSub, Nat.reduceMul, Nat.reduceLT, Nat.reduceLeDiff, Int.reduceAdd, Int.reduceSub, Int.reduceMul, Int.reduceLT, Int.reduceLE, Int.reduceEq, Int.reduceNeg, Int.reduceNe, Int.reduceGE, Int.reduceGT, Nat.reduceBEq, Int.reduceToNat]
      all_goals simp
  · exact h.elim
def spOwner : Spec := ⟨fun _ => [], fun args objs K => match args, objs with
  | [.v (.int .i64 x)], [] => K (.v (.int .i64 (x.tmod 2))) [] 0
  | _, _ => False⟩
theorem spOwner_t {a : List AVal} : spOwner.take a = [] := id rfl
theorem spOwner_f {x} {K : AVal → Hp → Nat → Prop} : Spec.f spOwner ([.v (.int .i64 x)]) ([]) K = (K (.v (.int .i64 (x.tmod 2))) [] 0) := id rfl
theorem valid45 : Valid Try.prog 45 spOwner := by
  refine validI (Γ := lk []) Try.func45 bod45 low45 res45 (good_of trivial) ?_
  intro E args objs K h hE hG hP
  simp only [spOwner] at h
  split at h
  · refine ⟨by simp [Try.ntmps45], ?_⟩
    rename_i x
    simp only [go_sem, hG, hP, Nat.reduceEqDiff, ↓reduceIte, reduceCtorEq, Nat.reduceAdd, Nat.reduceSub, Nat.reduceMul, Nat.reduceLT, Nat.reduceLeDiff, Int.reduceAdd, Int.reduceSub, Int.reduceMul, Int.reduceLT, Int.reduceLE, Int.reduceEq, Int.reduceNeg, Int.reduceNe, Int.reduceGE, Int.reduceGT, Nat.reduceBEq, Int.reduceToNat]
    first | exact ⟨_, _, _, by simp only [go_sem, hG, hP, Nat.reduceEqDiff, ↓reduceIte, reduceCtorEq, Nat.reduceAdd, Nat.reduceSub, Nat.reduceMul, Nat.reduceLT, Nat.reduceLeDiff, Int.reduceAdd, Int.reduceSub, Int.reduceMul, Int.reduceLT, Int.reduceLE, Int.reduceEq, Int.reduceNeg, Int.reduceNe, Int.reduceGE, Int.reduceGT, Nat.reduceBEq, Int.reduceToNat], h⟩ | (refine ⟨by decide, _, _, _, ?_, h⟩; simp only [go_sem, hG, hP, Nat.reduceEqDiff, ↓reduceIte, reduceCtorEq, Nat.reduceAdd, Nat.reduceSub, Nat.reduceMul, Nat.reduceLT, Nat.reduceLeDiff, Int.reduceAdd, Int.reduceSub, Int.reduceMul, Int.reduceLT, Int.reduceLE, Int.reduceEq, Int.reduceNeg, Int.reduceNe, Int.reduceGE, Int.reduceGT, Nat.reduceBEq, Int.reduceToNat])
  · exact h.elim
theorem valid35 : Valid Try.prog 35 spToTr := by
  refine validI (Γ := lk [(55, spCloneI), (56, spCloneN)]) Try.func35 bod35 low35 res35 (good_of ⟨⟨cal55, valid55⟩, ⟨cal56, valid56⟩, trivial⟩) ?_
  intro E args objs K h hE hG hP
  simp only [spToTr] at h
  split at h
  · refine ⟨by simp [Try.ntmps35], ?_⟩
    rename_i c0 c1 x y q0 q1
    obtain ⟨⟨b1, b2, b3, b4⟩, h⟩ := h
    simp only [go_sem, hG, hP, Nat.reduceEqDiff, ↓reduceIte, reduceCtorEq, Nat.reduceAdd, Nat.reduceSub, Nat.reduceMul, Nat.reduceLT, Nat.reduceLeDiff, Int.reduceAdd, Int.reduceSub, Int.reduceMul, Int.reduceLT, Int.reduceLE, Int.reduceEq, Int.reduceNeg, Int.reduceNe, Int.reduceGE, Int.reduceGT, Nat.reduceBEq, Int.reduceToNat]
    refine unrollI hE [(), (), ()] ?_
    simp only [go_sem, hG, hP, Nat.reduceEqDiff, ↓reduceIte, reduceCtorEq, Nat.reduceAdd, Nat.reduceSub, Nat.reduceMul, Nat.reduceLT, Nat.reduceLeDiff, Int.reduceAdd, Int.reduceSub, Int.reduceMul, Int.reduceLT, Int.reduceLE, Int.reduceEq, Int.reduceNeg, Int.reduceNe, Int.reduceGE, Int.reduceGT, Nat.reduceBEq, Int.reduceToNat,  spCloneI_f, spCloneI_t, spCloneN_f, spCloneN_t]
    repeat (refine And.intro (by first | omega | (simp; done) | (simp; omega) | (unfold appRoom; omega)) ?_)
    refine ⟨_, _, _, ?_, h⟩
    simp only [go_sem, hG, hP, Nat.reduceEqDiff, ↓reduceIte, reduceCtorEq, Nat.reduceAdd, Nat.reduceSub, Nat.reduceMul, Nat.reduceLT, Nat.reduceLeDiff, Int.reduceAdd, Int.reduceSub, Int.reduceMul, Int.reduceLT, Int.reduceLE, Int.reduceEq, Int.reduceNeg, Int.reduceNe, Int.reduceGE, Int.reduceGT, Nat.reduceBEq, Int.reduceToNat]
    all_goals simp
  · exact h.elim
theorem valid29 : Valid Try.prog 29 spToTr := by
  refine validI (Γ := lk []) Try.func29 bod29 low29 res29 (good_of trivial) ?_
  intro E args objs K h hE hG hP
  simp only [spToTr] at h
  split at h
  · refine ⟨by simp [Try.ntmps29], ?_⟩
    rename_i c0 c1 x y q0 q1
    obtain ⟨⟨b1, b2, b3, b4⟩, h⟩ := h
    simp only [go_sem, hG, hP, Nat.reduceEqDiff, ↓reduceIte, reduceCtorEq, Nat.reduceAdd, Nat.reduceSub, Nat.reduceMul, Nat.reduceLT, Nat.reduceLeDiff, Int.reduceAdd, Int.reduceSub, Int.reduceMul, Int.reduceLT, Int.reduceLE, Int.reduceEq, Int.reduceNeg, Int.reduceNe, Int.reduceGE, Int.reduceGT, Nat.reduceBEq, Int.reduceToNat]
    refine unrollI hE [(), (), ()] ?_
    simp only [go_sem, hG, hP, Nat.reduceEqDiff, ↓reduceIte, reduceCtorEq, Nat.reduceAdd, Nat.reduceSub, Nat.reduceMul, Nat.reduceLT, Nat.reduceLeDiff, Int.reduceAdd, Int.reduceSub, Int.reduceMul, Int.reduceLT, Int.reduceLE, Int.reduceEq, Int.reduceNeg, Int.reduceNe, Int.reduceGE, Int.reduceGT, Nat.reduceBEq, Int.reduceToNat]
    repeat (refine And.intro (by first | omega | (simp; done) | (simp; omega) | (unfold appRoom; omega)) ?_)
    refine ⟨_, _, _, ?_, h⟩
    simp only [go_sem, hG, hP, Nat.reduceEqDiff, ↓reduceIte, reduceCtorEq, Nat.reduceAdd, Nat.reduceSub, Nat.reduceMul, Nat.reduceLT, Nat.reduceLeDiff, Int.reduceAdd, Int.reduceSub, Int.reduceMul, Int.reduceLT, Int.reduceLE, Int.reduceEq, Int.reduceNeg, Int.reduceNe, Int.reduceGE, Int.reduceGT, Nat.reduceBEq, Int.reduceToNat]
    all_goals simp
  · exact h.elim
end Go.Proofs.YtfgefmkcmkihhaaE

/-! The code of a function, in the engine's words. -/
namespace Go.Proofs.YtfgefmkcmkihhaaE
open Go Go.RowKit
@[reducible] def ic24 : IC := (.seq (.ops [⟨some 1, .box (.tmp 0), none⟩, ⟨some 2, .mov (.const (.bool false)), none⟩]) (.seq (.ops [⟨some 7, .fadr 0 (.tmp 1), none⟩, ⟨some 8, .iarr 1 2 (.tmp 7) (.const (.int .i64 0)), none⟩, ⟨some 9, .load 1 false (.tmp 8), none⟩, ⟨some 10, .len (.tmp 9), none⟩, ⟨some 3, .mov (.tmp 10), none⟩]) (.seq (.seq (.ops [⟨some 11, .mov (.tmp 3), none⟩, ⟨some 12, .call 30 [(.tmp 11), (.const (.int .i64 1)), (.const (.int .i64 24))], none⟩, ⟨some 13, .una .not (.tmp 12), none⟩, ⟨some 14, .mov (.tmp 13), none⟩, ⟨some 15, .fadr 0 (.tmp 1), some (14, false)⟩, ⟨some 16, .iarr 1 2 (.tmp 15) (.const (.int .i64 1)), some (14, false)⟩, ⟨some 17, .load 1 false (.tmp 16), some (14, false)⟩, ⟨some 18, .len (.tmp 17), some (14, false)⟩, ⟨some 19, .mov (.tmp 3), some (14, false)⟩, ⟨some 20, .bin .neq (.tmp 18) (.tmp 19), some (14, false)⟩, ⟨some 21, .pick (.tmp 14) (.const (.bool true)) (.tmp 20), none⟩]) (.cond (.tmp 21) (.seq (.ops [⟨some 2, .mov (.const (.bool false)), none⟩]) .ret) .skip)) (.seq (.seq (.ops [⟨some 4, .mov (.const (.int .i64 0)), none⟩]) (.block 0 (.loop (.seq (.seq (.ops [⟨some 22, .mov (.tmp 4), none⟩, ⟨some 23, .bin .lss (.tmp 22) (.const (.int .i64 2)), none⟩]) (.cond (.tmp 23) .skip (.exit 0))) (.seq (.block 1 (.seq (.seq (.ops [⟨some 5, .mov (.const (.int .i64 0)), none⟩]) (.block 2 (.loop (.seq (.seq (.ops [⟨some 26, .mov (.tmp 5), none⟩, ⟨some 27, .mov (.tmp 3), none⟩, ⟨some 28, .bin .lss (.tmp 26) (.tmp 27), none⟩]) (.cond (.tmp 28) .skip (.exit 2))) (.seq (.block 3 (.seq (.ops [⟨some 31, .mov (.tmp 4), none⟩, ⟨some 32, .fadr 0 (.tmp 1), none⟩, ⟨some 33, .iarr 1 2 (.tmp 32) (.tmp 31), none⟩, ⟨some 34, .load 1 false (.tmp 33), none⟩, ⟨some 35, .mov (.tmp 5), none⟩, ⟨some 36, .iadr 1 (.tmp 34) (.tmp 35), none⟩, ⟨some 37, .load 1 false (.tmp 36), none⟩, ⟨some 38, .call 30 [(.tmp 37), (.const (.int .i64 0)), (.const (.int .i64 4))], none⟩, ⟨some 39, .una .not (.tmp 38), none⟩]) (.cond (.tmp 39) (.seq (.ops [⟨some 2, .mov (.const (.bool false)), none⟩]) .ret) .skip))) (.ops [⟨some 29, .mov (.tmp 5), none⟩, ⟨some 30, .bin .add (.tmp 29) (.const (.int .i64 1)), none⟩, ⟨some 5, .mov (.tmp 30), none⟩])))))) (.seq (.seq (.ops [⟨some 6, .mov (.const (.int .i64 0)), none⟩]) (.block 4 (.loop (.seq (.seq (.ops [⟨some 40, .mov (.tmp 6), none⟩, ⟨some 41, .mov (.tmp 4), none⟩, ⟨some 42, .fadr 4 (.tmp 1), none⟩, ⟨some 43, .iarr 1 2 (.tmp 42) (.tmp 41), none⟩, ⟨some 44, .load 1 false (.tmp 43), none⟩, ⟨some 45, .len (.tmp 44), none⟩, ⟨some 46, .bin .lss (.tmp 40) (.tmp 45), none⟩]) (.cond (.tmp 46) .skip (.exit 4))) (.seq (.block 5 (.seq (.ops [⟨some 49, .mov (.tmp 4), none⟩, ⟨some 50, .fadr 4 (.tmp 1), none⟩, ⟨some 51, .iarr 1 2 (.tmp 50) (.tmp 49), none⟩, ⟨some 52, .load 1 false (.tmp 51), none⟩, ⟨some 53, .mov (.tmp 6), none⟩, ⟨some 54, .iadr 2 (.tmp 52) (.tmp 53), none⟩, ⟨some 55, .fadr 0 (.tmp 54), none⟩, ⟨some 56, .load 1 false (.tmp 55), none⟩, ⟨some 57, .call 30 [(.tmp 56), (.const (.int .i64 1)), (.const (.int .i64 5))], none⟩, ⟨some 58, .una .not (.tmp 57), none⟩, ⟨some 59, .mov (.tmp 58), none⟩, ⟨some 60, .mov (.tmp 4), some (59, false)⟩, ⟨some 61, .fadr 4 (.tmp 1), some (59, false)⟩, ⟨some 62, .iarr 1 2 (.tmp 61) (.tmp 60), some (59, false)⟩, ⟨some 63, .load 1 false (.tmp 62), some (59, false)⟩, ⟨some 64, .mov (.tmp 6), some (59, false)⟩, ⟨some 65, .iadr 2 (.tmp 63) (.tmp 64), some (59, false)⟩, ⟨some 66, .fadr 1 (.tmp 65), some (59, false)⟩, ⟨some 67, .load 1 false (.tmp 66), some (59, false)⟩, ⟨some 68, .mov (.tmp 3), some (59, false)⟩, ⟨some 69, .bin .sub (.tmp 68) (.const (.int .i64 1)), some (59, false)⟩, ⟨some 70, .call 30 [(.tmp 67), (.const (.int .i64 0)), (.tmp 69)], some (59, false)⟩, ⟨some 71, .una .not (.tmp 70), some (59, false)⟩, ⟨some 72, .pick (.tmp 59) (.const (.bool true)) (.tmp 71), none⟩]) (.cond (.tmp 72) (.seq (.ops [⟨some 2, .mov (.const (.bool false)), none⟩]) .ret) .skip))) (.ops [⟨some 47, .mov (.tmp 6), none⟩, ⟨some 48, .bin .add (.tmp 47) (.const (.int .i64 1)), none⟩, ⟨some 6, .mov (.tmp 48), none⟩])))))) (.seq (.ops [⟨some 73, .mov (.tmp 4), none⟩, ⟨some 74, .fadr 4 (.tmp 1), none⟩, ⟨some 75, .iarr 1 2 (.tmp 74) (.tmp 73), none⟩, ⟨some 76, .load 1 false (.tmp 75), none⟩, ⟨some 77, .len (.tmp 76), none⟩, ⟨some 78, .bin .gtr (.tmp 77) (.const (.int .i64 60)), none⟩, ⟨some 79, .mov (.tmp 78), none⟩, ⟨some 80, .mov (.tmp 4), some (79, false)⟩, ⟨some 81, .fadr 2 (.tmp 1), some (79, false)⟩, ⟨some 82, .iarr 1 2 (.tmp 81) (.tmp 80), some (79, false)⟩, ⟨some 83, .load 1 false (.tmp 82), some (79, false)⟩, ⟨some 84, .call 30 [(.tmp 83), (.const (.int .i64 0)), (.const (.int .i64 1000000))], some (79, false)⟩, ⟨some 85, .una .not (.tmp 84), some (79, false)⟩, ⟨some 86, .pick (.tmp 79) (.const (.bool true)) (.tmp 85), none⟩]) (.cond (.tmp 86) (.seq (.ops [⟨some 2, .mov (.const (.bool false)), none⟩]) .ret) .skip))))) (.ops [⟨some 24, .mov (.tmp 4), none⟩, ⟨some 25, .bin .add (.tmp 24) (.const (.int .i64 1)), none⟩, ⟨some 4, .mov (.tmp 25), none⟩])))))) (.seq (.ops [⟨some 2, .mov (.const (.bool true)), none⟩]) .ret)))))
@[reducible] def rv24 : List RV := [.tmp 2]
theorem low24 : lowC Try.prog tau Try.f24.ntmps (Try.f24.body.getD .skip) = some (erase ic24) := by kernel_rfl
theorem res24 : lowR Try.prog Try.f24.results.toList = some rv24 := by kernel_rfl
theorem bod24 : Try.f24.body = some (Try.f24.body.getD .skip) := by kernel_rfl
theorem cal24 : callable Try.prog 24 = true := by kernel_rfl

end Go.Proofs.YtfgefmkcmkihhaaE

/-! The code of a function, in the engine's words. -/
namespace Go.Proofs.YtfgefmkcmkihhaaE
open Go Go.RowKit
@[reducible] def ic36 : IC := (.seq (.ops [⟨some 1, .box (.tmp 0), none⟩, ⟨some 2, .mov (.const (.bool false)), none⟩]) (.seq (.ops [⟨some 9, .fadr 0 (.tmp 1), none⟩, ⟨some 10, .iarr 1 2 (.tmp 9) (.const (.int .i64 0)), none⟩, ⟨some 11, .load 1 false (.tmp 10), none⟩, ⟨some 12, .len (.tmp 11), none⟩, ⟨some 3, .mov (.tmp 12), none⟩]) (.seq (.seq (.ops [⟨some 13, .mov (.tmp 3), none⟩, ⟨some 14, .fadr 0 (.tmp 1), none⟩, ⟨some 15, .iarr 1 2 (.tmp 14) (.const (.int .i64 1)), none⟩, ⟨some 16, .load 1 false (.tmp 15), none⟩, ⟨some 17, .len (.tmp 16), none⟩, ⟨some 18, .bin .neq (.tmp 13) (.tmp 17), none⟩, ⟨some 19, .mov (.tmp 18), none⟩, ⟨some 20, .mov (.tmp 3), some (19, false)⟩, ⟨some 21, .call 37 [(.tmp 20), (.const (.int .i64 1)), (.const (.int .i64 24))], some (19, false)⟩, ⟨some 22, .una .not (.tmp 21), some (19, false)⟩, ⟨some 23, .pick (.tmp 19) (.const (.bool true)) (.tmp 22), none⟩]) (.cond (.tmp 23) (.seq (.ops [⟨some 2, .mov (.const (.bool false)), none⟩]) .ret) .skip)) (.seq (.seq (.ops [⟨some 24, .mov (.const (.int .i64 0)), none⟩]) (.block 0 (.loop (.seq (.ops [⟨some 25, .bin .lss (.tmp 24) (.const (.int .i64 2)), none⟩]) (.seq (.cond (.tmp 25) .skip (.exit 0)) (.seq (.block 1 (.seq (.ops [⟨some 26, .mov (.tmp 24), none⟩, ⟨some 4, .mov (.tmp 26), none⟩]) (.seq (.seq (.ops [⟨some 27, .mov (.tmp 4), none⟩, ⟨some 28, .fadr 0 (.tmp 1), none⟩, ⟨some 29, .iarr 1 2 (.tmp 28) (.tmp 27), none⟩, ⟨some 30, .load 1 false (.tmp 29), none⟩, ⟨some 31, .len (.tmp 30), none⟩, ⟨some 32, .mov (.const (.int .i64 0)), none⟩]) (.block 2 (.loop (.seq (.ops [⟨some 33, .bin .lss (.tmp 32) (.tmp 31), none⟩]) (.seq (.cond (.tmp 33) .skip (.exit 2)) (.seq (.block 3 (.seq (.ops [⟨some 34, .iadr 1 (.tmp 30) (.tmp 32), none⟩, ⟨some 35, .load 1 false (.tmp 34), none⟩, ⟨some 6, .mov (.tmp 35), none⟩]) (.seq (.ops [⟨some 36, .mov (.tmp 6), none⟩, ⟨some 37, .call 37 [(.tmp 36), (.const (.int .i64 0)), (.const (.int .i64 4))], none⟩, ⟨some 38, .una .not (.tmp 37), none⟩]) (.cond (.tmp 38) (.seq (.ops [⟨some 2, .mov (.const (.bool false)), none⟩]) .ret) .skip)))) (.ops [⟨some 39, .bin .add (.tmp 32) (.const (.int .i64 1)), none⟩, ⟨some 32, .mov (.tmp 39), none⟩]))))))) (.seq (.seq (.ops [⟨some 40, .mov (.tmp 4), none⟩, ⟨some 41, .fadr 4 (.tmp 1), none⟩, ⟨some 42, .iarr 1 2 (.tmp 41) (.tmp 40), none⟩, ⟨some 43, .load 1 false (.tmp 42), none⟩, ⟨some 44, .len (.tmp 43), none⟩, ⟨some 45, .mov (.const (.int .i64 0)), none⟩]) (.block 4 (.loop (.seq (.ops [⟨some 46, .bin .lss (.tmp 45) (.tmp 44), none⟩]) (.seq (.cond (.tmp 46) .skip (.exit 4)) (.seq (.block 5 (.seq (.ops [⟨some 47, .iadr 2 (.tmp 43) (.tmp 45), none⟩, ⟨some 48, .load 2 true (.tmp 47), none⟩, ⟨some 8, .new [(.int .i64 0), (.int .i64 0)], none⟩, ⟨none, .store 2 (.tmp 8) (.tmp 48), none⟩]) (.seq (.ops [⟨some 49, .fadr 0 (.tmp 8), none⟩, ⟨some 50, .load 1 false (.tmp 49), none⟩, ⟨some 51, .call 37 [(.tmp 50), (.const (.int .i64 1)), (.const (.int .i64 5))], none⟩, ⟨some 52, .una .not (.tmp 51), none⟩, ⟨some 53, .mov (.tmp 52), none⟩, ⟨some 54, .fadr 1 (.tmp 8), some (53, false)⟩, ⟨some 55, .load 1 false (.tmp 54), some (53, false)⟩, ⟨some 56, .mov (.tmp 3), some (53, false)⟩, ⟨some 57, .bin .sub (.tmp 56) (.const (.int .i64 1)), some (53, false)⟩, ⟨some 58, .call 37 [(.tmp 55), (.const (.int .i64 0)), (.tmp 57)], some (53, false)⟩, ⟨some 59, .una .not (.tmp 58), some (53, false)⟩, ⟨some 60, .pick (.tmp 53) (.const (.bool true)) (.tmp 59), none⟩]) (.cond (.tmp 60) (.seq (.ops [⟨some 2, .mov (.const (.bool false)), none⟩]) .ret) .skip)))) (.ops [⟨some 61, .bin .add (.tmp 45) (.const (.int .i64 1)), none⟩, ⟨some 45, .mov (.tmp 61), none⟩]))))))) (.seq (.ops [⟨some 62, .mov (.tmp 4), none⟩, ⟨some 63, .fadr 2 (.tmp 1), none⟩, ⟨some 64, .iarr 1 2 (.tmp 63) (.tmp 62), none⟩, ⟨some 65, .load 1 false (.tmp 64), none⟩, ⟨some 66, .call 37 [(.tmp 65), (.const (.int .i64 0)), (.const (.int .i64 1000000))], none⟩, ⟨some 67, .una .not (.tmp 66), none⟩, ⟨some 68, .mov (.tmp 67), none⟩, ⟨some 69, .mov (.tmp 4), some (68, false)⟩, ⟨some 70, .fadr 4 (.tmp 1), some (68, false)⟩, ⟨some 71, .iarr 1 2 (.tmp 70) (.tmp 69), some (68, false)⟩, ⟨some 72, .load 1 false (.tmp 71), some (68, false)⟩, ⟨some 73, .len (.tmp 72), some (68, false)⟩, ⟨some 74, .bin .gtr (.tmp 73) (.const (.int .i64 60)), some (68, false)⟩, ⟨some 75, .pick (.tmp 68) (.const (.bool true)) (.tmp 74), none⟩]) (.cond (.tmp 75) (.seq (.ops [⟨some 2, .mov (.const (.bool false)), none⟩]) .ret) .skip)))))) (.ops [⟨some 76, .bin .add (.tmp 24) (.const (.int .i64 1)), none⟩, ⟨some 24, .mov (.tmp 76), none⟩]))))))) (.seq (.ops [⟨some 2, .mov (.const (.bool true)), none⟩]) .ret)))))
@[reducible] def rv36 : List RV := [.tmp 2]
theorem low36 : lowC Try.prog tau Try.f36.ntmps (Try.f36.body.getD .skip) = some (erase ic36) := by kernel_rfl
theorem res36 : lowR Try.prog Try.f36.results.toList = some rv36 := by kernel_rfl
theorem bod36 : Try.f36.body = some (Try.f36.body.getD .skip) := by kernel_rfl
theorem cal36 : callable Try.prog 36 = true := by kernel_rfl

end Go.Proofs.YtfgefmkcmkihhaaE

/-! Whether a Trunk is right. -/
namespace Go.Proofs.YtfgefmkcmkihhaaE
open Go Go.RowKit
set_option linter.unusedSimpArgs false
set_option linter.unusedVariables false
set_option maxRecDepth 20000

def circOk (c : Int) : Bool := decide (0 ≤ c ∧ c ≤ 4)
def noteOk (n : Int) (x : Note) : Bool := decide (1 ≤ x.kind ∧ x.kind ≤ 5) && decide (0 ≤ x.circuit ∧ x.circuit ≤ n - 1)
def restOk (q : List Note) (l : Int) : Bool := decide ((q.length : Int) ≤ 60) && decide (0 ≤ l ∧ l ≤ 1000000)
def sideOk (n : Int) (c : List Int) (q : List Note) (l : Int) : Bool := c.all circOk && (q.all (noteOk n) && restOk q l)
def headOk (t : Tr) : Bool := decide ((t.c0.length : Int) = t.c1.length) && decide ((1 : Int) ≤ t.c0.length ∧ (t.c0.length : Int) ≤ 24)
def trOk (t : Tr) : Bool := headOk t && (sideOk t.c0.length t.c0 t.q0 t.x && sideOk t.c0.length t.c1 t.q1 t.y)
theorem all_yes {α : Type} {xs : List α} {P : α → Bool} {d : α} {j : Nat} (h : ∀ i, i < j → P (xs.getD i d) = true) (hj : j = xs.length) : xs.all P = true := by
  subst hj
  rw [List.all_eq_true]
  intro x hx
  obtain ⟨i, hi, rfl⟩ := List.mem_iff_getElem.1 hx
  have := h i hi
  rwa [List.getD_eq_getElem?_getD, List.getElem?_eq_getElem hi] at this
theorem all_no {α : Type} {xs : List α} {P : α → Bool} {d : α} {j : Nat} (hj : j < xs.length) (h : P (xs.getD j d) = false) : xs.all P = false := by
  rw [List.all_eq_false]
  refine ⟨xs[j], List.getElem_mem hj, ?_⟩
  rw [List.getD_eq_getElem?_getD, List.getElem?_eq_getElem hj] at h
  simpa using h
theorem upto_succ {P : Nat → Prop} {j : Nat} (h : ∀ i, i < j → P i) (h2 : P j) : ∀ i, i < j + 1 → P i := fun i hi => by
  by_cases e : i = j
  · rw [e]; exact h2
  · exact h i (by omega)
def spTrOk : Spec := ⟨fun _ => [], fun args objs K => match args, objs with
  | [.agg [.rs .int c0, .rs .int c1, .v (.int .i64 x), .v (.int .i64 y), .rs .note q0, .rs .note q1]], [] => (c0.length ≤ 1099511627776 ∧ c1.length ≤ 1099511627776 ∧ q0.length ≤ 1099511627776 ∧ q1.length ≤ 1099511627776) ∧ K (.v (.bool (trOk ⟨c0, c1, x, y, q0, q1⟩))) [] 0
  | _, _ => False⟩
theorem spTrOk_t {a : List AVal} : spTrOk.take a = [] := id rfl
theorem spTrOk_f {c0} {c1} {x} {y} {q0} {q1} {K : AVal → Hp → Nat → Prop} : Spec.f spTrOk ([.agg [.rs .int c0, .rs .int c1, .v (.int .i64 x), .v (.int .i64 y), .rs .note q0, .rs .note q1]]) ([]) K = ((c0.length ≤ 1099511627776 ∧ c1.length ≤ 1099511627776 ∧ q0.length ≤ 1099511627776 ∧ q1.length ≤ 1099511627776) ∧ K (.v (.bool (trOk ⟨c0, c1, x, y, q0, q1⟩))) [] 0) := id rfl
theorem valid36 : Valid Try.prog 36 spTrOk := by
  refine validI (Γ := lk [(37, spIn)]) Try.func36 bod36 low36 res36 (good_of ⟨⟨cal37, valid37⟩, trivial⟩) ?_
  intro E args objs K h hE hG hP
  simp only [spTrOk] at h
  split at h
  · refine ⟨by simp [Try.ntmps36], ?_⟩
    rename_i c0 c1 x y q0 q1
    obtain ⟨⟨b1, b2, b3, b4⟩, h⟩ := h
    simp only [go_sem, hG, hP, Nat.reduceEqDiff, ↓reduceIte, reduceCtorEq, Nat.reduceAdd, Nat.reduceSub, Nat.reduceMul, Nat.reduceLT, Nat.reduceLeDiff, Int.reduceAdd, Int.reduceSub, Int.reduceMul, Int.reduceLT, Int.reduceLE, Int.reduceEq, Int.reduceNeg, Int.reduceNe, Int.reduceGE, Int.reduceGT, Nat.reduceBEq, Int.reduceToNat,  spIn_f, spIn_t]
    refine ⟨fun hA => ⟨fun hB => ⟨_, _, _, ?_, h⟩, fun hB => ?_⟩, fun hA => ⟨_, _, _, ?_, h⟩⟩
    · simp only [go_sem, hG, hP, Nat.reduceEqDiff, ↓reduceIte, reduceCtorEq, Nat.reduceAdd, Nat.reduceSub, Nat.reduceMul, Nat.reduceLT, Nat.reduceLeDiff, Int.reduceAdd, Int.reduceSub, Int.reduceMul, Int.reduceLT, Int.reduceLE, Int.reduceEq, Int.reduceNeg, Int.reduceNe, Int.reduceGE, Int.reduceGT, Nat.reduceBEq, Int.reduceToNat]
      simp [trOk, headOk, hB]
    rotate_left
    · simp only [go_sem, hG, hP, Nat.reduceEqDiff, ↓reduceIte, reduceCtorEq, Nat.reduceAdd, Nat.reduceSub, Nat.reduceMul, Nat.reduceLT, Nat.reduceLeDiff, Int.reduceAdd, Int.reduceSub, Int.reduceMul, Int.reduceLT, Int.reduceLE, Int.reduceEq, Int.reduceNeg, Int.reduceNe, Int.reduceGE, Int.reduceGT, Nat.reduceBEq, Int.reduceToNat]
      simp [trOk, headOk, hA]
    have hA := Decidable.not_not.1 hA
    have hH : headOk ⟨c0, c1, x, y, q0, q1⟩ = true := by simp [headOk, hA, hB]; omega
    refine unrollI hE [(), (), ()] ?_
    simp only [go_sem, hG, hP, Nat.reduceEqDiff, ↓reduceIte, reduceCtorEq, Nat.reduceAdd, Nat.reduceSub, Nat.reduceMul, Nat.reduceLT, Nat.reduceLeDiff, Int.reduceAdd, Int.reduceSub, Int.reduceMul, Int.reduceLT, Int.reduceLE, Int.reduceEq, Int.reduceNeg, Int.reduceNe, Int.reduceGE, Int.reduceGT, Nat.reduceBEq, Int.reduceToNat]
    refine loopI hE (fun j : Nat => ⟨[(1, .ptr 0 0), (3, .v (.int .i64 c0.length)), (4, .v (.int .i64 0)), (24, .v (.int .i64 0)), (30, .rs .int c0), (31, .v (.int .i64 c0.length)), (32, .v (.int .i64 j))], [(0, .box [.rs .int c0, .rs .int c1, .v (.int .i64 x), .v (.int .i64 y), .rs .note q0, .rs .note q1])], 1, Try.f36.ntmps⟩) (fun j => j ≤ c0.length ∧ ∀ i, i < j → circOk (c0.getD i 0) = true) (fun j => c0.length - j) ⟨0, ⟨Nat.zero_le _, fun i hi => absurd hi (Nat.not_lt_zero _)⟩, SubS.weak ?_⟩ ?_
    · simp only [go_sem, hG, hP, Nat.reduceEqDiff, ↓reduceIte, reduceCtorEq, Nat.reduceAdd, Nat.reduceSub, Nat.reduceMul, Nat.reduceLT, Nat.reduceLeDiff, Int.reduceAdd, Int.reduceSub, Int.reduceMul, Int.reduceLT, Int.reduceLE, Int.reduceEq, Int.reduceNeg, Int.reduceNe, Int.reduceGE, Int.reduceGT, Nat.reduceBEq, Int.reduceToNat]
      repeat' (first | with_reducible rfl | (refine And.intro ?_ ?_) | (refine congrArg (Value.int _) ?_; omega) | omega)
    · intro j ⟨hj, hpre⟩
      simp only [go_sem, hG, hP, Nat.reduceEqDiff, ↓reduceIte, reduceCtorEq, Nat.reduceAdd, Nat.reduceSub, Nat.reduceMul, Nat.reduceLT, Nat.reduceLeDiff, Int.reduceAdd, Int.reduceSub, Int.reduceMul, Int.reduceLT, Int.reduceLE, Int.reduceEq, Int.reduceNeg, Int.reduceNe, Int.reduceGE, Int.reduceGT, Nat.reduceBEq, Int.reduceToNat,  spIn_f, spIn_t]
      (try simp (disch := omega) only [wrap_id])
      refine ⟨fun hlt => ?_, fun hge => ?_⟩
      · repeat (refine And.intro (by first | omega | (simp; done) | (simp; omega) | (unfold appRoom; omega)) ?_)
        refine ⟨fun hn => ⟨_, _, _, ?_, h⟩, fun hy => ⟨j + 1, ⟨⟨by omega, upto_succ hpre (by simpa [circOk] using hy)⟩, by omega⟩, SubS.weak ?_⟩⟩
        · simp only [go_sem, hG, hP, Nat.reduceEqDiff, ↓reduceIte, reduceCtorEq, Nat.reduceAdd, Nat.reduceSub, Nat.reduceMul, Nat.reduceLT, Nat.reduceLeDiff, Int.reduceAdd, Int.reduceSub, Int.reduceMul, Int.reduceLT, Int.reduceLE, Int.reduceEq, Int.reduceNeg, Int.reduceNe, Int.reduceGE, Int.reduceGT, Nat.reduceBEq, Int.reduceToNat]
          have e : c0.all circOk = false := all_no (d := (0 : Int)) (j := j) (by omega) (by simpa [circOk] using hn)
          simp [trOk, sideOk, e]
        · simp only [go_sem, hG, hP, Nat.reduceEqDiff, ↓reduceIte, reduceCtorEq, Nat.reduceAdd, Nat.reduceSub, Nat.reduceMul, Nat.reduceLT, Nat.reduceLeDiff, Int.reduceAdd, Int.reduceSub, Int.reduceMul, Int.reduceLT, Int.reduceLE, Int.reduceEq, Int.reduceNeg, Int.reduceNe, Int.reduceGE, Int.reduceGT, Nat.reduceBEq, Int.reduceToNat]
          repeat' (first | with_reducible rfl | (refine And.intro ?_ ?_) | (refine congrArg (Value.int _) ?_; omega) | omega)
      · have hC0 : c0.all circOk = true := all_yes hpre (by omega)
        refine loopI hE (fun j : Nat => ⟨[(1, .ptr 0 0), (3, .v (.int .i64 c0.length)), (4, .v (.int .i64 0)), (24, .v (.int .i64 0)), (43, .rs .note q0), (44, .v (.int .i64 q0.length)), (45, .v (.int .i64 j))], [(0, .box [.rs .int c0, .rs .int c1, .v (.int .i64 x), .v (.int .i64 y), .rs .note q0, .rs .note q1])], 1, Try.f36.ntmps⟩) (fun j => j ≤ q0.length ∧ ∀ i, i < j → noteOk c0.length (q0.getD i ⟨0, 0⟩) = true) (fun j => q0.length - j) ⟨0, ⟨Nat.zero_le _, fun i hi => absurd hi (Nat.not_lt_zero _)⟩, SubS.weak ?_⟩ ?_
        · simp only [go_sem, hG, hP, Nat.reduceEqDiff, ↓reduceIte, reduceCtorEq, Nat.reduceAdd, Nat.reduceSub, Nat.reduceMul, Nat.reduceLT, Nat.reduceLeDiff, Int.reduceAdd, Int.reduceSub, Int.reduceMul, Int.reduceLT, Int.reduceLE, Int.reduceEq, Int.reduceNeg, Int.reduceNe, Int.reduceGE, Int.reduceGT, Nat.reduceBEq, Int.reduceToNat]
          repeat' (first | with_reducible rfl | (refine And.intro ?_ ?_) | (refine congrArg (Value.int _) ?_; omega) | omega)
        · intro j ⟨hj, hpre⟩
          simp only [go_sem, hG, hP, Nat.reduceEqDiff, ↓reduceIte, reduceCtorEq, Nat.reduceAdd, Nat.reduceSub, Nat.reduceMul, Nat.reduceLT, Nat.reduceLeDiff, Int.reduceAdd, Int.reduceSub, Int.reduceMul, Int.reduceLT, Int.reduceLE, Int.reduceEq, Int.reduceNeg, Int.reduceNe, Int.reduceGE, Int.reduceGT, Nat.reduceBEq, Int.reduceToNat,  spIn_f, spIn_t]
          (try simp (disch := omega) only [wrap_id])
          refine ⟨fun hlt => ?_, fun hge => ?_⟩
          · repeat (refine And.intro (by first | omega | (simp; done) | (simp; omega) | (unfold appRoom; omega)) ?_)
            refine ⟨fun hK => ⟨fun hn => ⟨_, _, _, ?_, h⟩, fun hy => ⟨j + 1, ⟨⟨by omega, upto_succ hpre (by simp only [noteOk, decide_eq_true hK, decide_eq_true hy, Bool.and_true])⟩, by omega⟩, SubS.weak ?_⟩⟩, fun hK => ⟨_, _, _, ?_, h⟩⟩
            · simp only [go_sem, hG, hP, Nat.reduceEqDiff, ↓reduceIte, reduceCtorEq, Nat.reduceAdd, Nat.reduceSub, Nat.reduceMul, Nat.reduceLT, Nat.reduceLeDiff, Int.reduceAdd, Int.reduceSub, Int.reduceMul, Int.reduceLT, Int.reduceLE, Int.reduceEq, Int.reduceNeg, Int.reduceNe, Int.reduceGE, Int.reduceGT, Nat.reduceBEq, Int.reduceToNat]
              have e : q0.all (noteOk c0.length) = false := all_no (d := (⟨0, 0⟩ : Note)) (j := j) (by omega) (by simp only [noteOk, decide_eq_false hn, Bool.and_false])
              simp [trOk, sideOk, e]
            · simp only [go_sem, hG, hP, Nat.reduceEqDiff, ↓reduceIte, reduceCtorEq, Nat.reduceAdd, Nat.reduceSub, Nat.reduceMul, Nat.reduceLT, Nat.reduceLeDiff, Int.reduceAdd, Int.reduceSub, Int.reduceMul, Int.reduceLT, Int.reduceLE, Int.reduceEq, Int.reduceNeg, Int.reduceNe, Int.reduceGE, Int.reduceGT, Nat.reduceBEq, Int.reduceToNat]
              repeat' (first | with_reducible rfl | (refine And.intro ?_ ?_) | (refine congrArg (Value.int _) ?_; omega) | omega)
            · simp only [go_sem, hG, hP, Nat.reduceEqDiff, ↓reduceIte, reduceCtorEq, Nat.reduceAdd, Nat.reduceSub, Nat.reduceMul, Nat.reduceLT, Nat.reduceLeDiff, Int.reduceAdd, Int.reduceSub, Int.reduceMul, Int.reduceLT, Int.reduceLE, Int.reduceEq, Int.reduceNeg, Int.reduceNe, Int.reduceGE, Int.reduceGT, Nat.reduceBEq, Int.reduceToNat]
              have e : q0.all (noteOk c0.length) = false := all_no (d := (⟨0, 0⟩ : Note)) (j := j) (by omega) (by simp only [noteOk, decide_eq_false hK, Bool.false_and])
              simp [trOk, sideOk, e]
          · have hQ0 : q0.all (noteOk c0.length) = true := all_yes hpre (by omega)
            refine ⟨fun hK => ⟨fun hn => ⟨_, _, _, ?_, h⟩, fun hy => ?_⟩, fun hK => ⟨_, _, _, ?_, h⟩⟩
            · simp only [go_sem, hG, hP, Nat.reduceEqDiff, ↓reduceIte, reduceCtorEq, Nat.reduceAdd, Nat.reduceSub, Nat.reduceMul, Nat.reduceLT, Nat.reduceLeDiff, Int.reduceAdd, Int.reduceSub, Int.reduceMul, Int.reduceLT, Int.reduceLE, Int.reduceEq, Int.reduceNeg, Int.reduceNe, Int.reduceGE, Int.reduceGT, Nat.reduceBEq, Int.reduceToNat]
              have e : restOk q0 x = false := by simp [restOk]; omega
              simp [trOk, sideOk, e]
            · have hR0 : restOk q0 x = true := by simp [restOk]; omega
              refine loopI hE (fun j : Nat => ⟨[(1, .ptr 0 0), (3, .v (.int .i64 c0.length)), (4, .v (.int .i64 1)), (24, .v (.int .i64 1)), (30, .rs .int c1), (31, .v (.int .i64 c1.length)), (32, .v (.int .i64 j))], [(0, .box [.rs .int c0, .rs .int c1, .v (.int .i64 x), .v (.int .i64 y), .rs .note q0, .rs .note q1])], 1, Try.f36.ntmps⟩) (fun j => j ≤ c1.length ∧ ∀ i, i < j → circOk (c1.getD i 0) = true) (fun j => c1.length - j) ⟨0, ⟨Nat.zero_le _, fun i hi => absurd hi (Nat.not_lt_zero _)⟩, SubS.weak ?_⟩ ?_
              · simp only [go_sem, hG, hP, Nat.reduceEqDiff, ↓reduceIte, reduceCtorEq, Nat.reduceAdd, Nat.reduceSub, Nat.reduceMul, Nat.reduceLT, Nat.reduceLeDiff, Int.reduceAdd, Int.reduceSub, Int.reduceMul, Int.reduceLT, Int.reduceLE, Int.reduceEq, Int.reduceNeg, Int.reduceNe, Int.reduceGE, Int.reduceGT, Nat.reduceBEq, Int.reduceToNat]
                repeat' (first | with_reducible rfl | (refine And.intro ?_ ?_) | (refine congrArg (Value.int _) ?_; omega) | omega)
              · intro j ⟨hj, hpre⟩
                simp only [go_sem, hG, hP, Nat.reduceEqDiff, ↓reduceIte, reduceCtorEq, Nat.reduceAdd, Nat.reduceSub, Nat.reduceMul, Nat.reduceLT, Nat.reduceLeDiff, Int.reduceAdd, Int.reduceSub, Int.reduceMul, Int.reduceLT, Int.reduceLE, Int.reduceEq, Int.reduceNeg, Int.reduceNe, Int.reduceGE, Int.reduceGT, Nat.reduceBEq, Int.reduceToNat,  spIn_f, spIn_t]
                (try simp (disch := omega) only [wrap_id])
                refine ⟨fun hlt => ?_, fun hge => ?_⟩
                · repeat (refine And.intro (by first | omega | (simp; done) | (simp; omega) | (unfold appRoom; omega)) ?_)
                  refine ⟨fun hn => ⟨_, _, _, ?_, h⟩, fun hy => ⟨j + 1, ⟨⟨by omega, upto_succ hpre (by simpa [circOk] using hy)⟩, by omega⟩, SubS.weak ?_⟩⟩
                  · simp only [go_sem, hG, hP, Nat.reduceEqDiff, ↓reduceIte, reduceCtorEq, Nat.reduceAdd, Nat.reduceSub, Nat.reduceMul, Nat.reduceLT, Nat.reduceLeDiff, Int.reduceAdd, Int.reduceSub, Int.reduceMul, Int.reduceLT, Int.reduceLE, Int.reduceEq, Int.reduceNeg, Int.reduceNe, Int.reduceGE, Int.reduceGT, Nat.reduceBEq, Int.reduceToNat]
                    have e : c1.all circOk = false := all_no (d := (0 : Int)) (j := j) (by omega) (by simpa [circOk] using hn)
                    simp [trOk, sideOk, e]
                  · simp only [go_sem, hG, hP, Nat.reduceEqDiff, ↓reduceIte, reduceCtorEq, Nat.reduceAdd, Nat.reduceSub, Nat.reduceMul, Nat.reduceLT, Nat.reduceLeDiff, Int.reduceAdd, Int.reduceSub, Int.reduceMul, Int.reduceLT, Int.reduceLE, Int.reduceEq, Int.reduceNeg, Int.reduceNe, Int.reduceGE, Int.reduceGT, Nat.reduceBEq, Int.reduceToNat]
                    repeat' (first | with_reducible rfl | (refine And.intro ?_ ?_) | (refine congrArg (Value.int _) ?_; omega) | omega)
                · have hC1 : c1.all circOk = true := all_yes hpre (by omega)
                  refine loopI hE (fun j : Nat => ⟨[(1, .ptr 0 0), (3, .v (.int .i64 c0.length)), (4, .v (.int .i64 1)), (24, .v (.int .i64 1)), (43, .rs .note q1), (44, .v (.int .i64 q1.length)), (45, .v (.int .i64 j))], [(0, .box [.rs .int c0, .rs .int c1, .v (.int .i64 x), .v (.int .i64 y), .rs .note q0, .rs .note q1])], 1, Try.f36.ntmps⟩) (fun j => j ≤ q1.length ∧ ∀ i, i < j → noteOk c0.length (q1.getD i ⟨0, 0⟩) = true) (fun j => q1.length - j) ⟨0, ⟨Nat.zero_le _, fun i hi => absurd hi (Nat.not_lt_zero _)⟩, SubS.weak ?_⟩ ?_
                  · simp only [go_sem, hG, hP, Nat.reduceEqDiff, ↓reduceIte, reduceCtorEq, Nat.reduceAdd, Nat.reduceSub, Nat.reduceMul, Nat.reduceLT, Nat.reduceLeDiff, Int.reduceAdd, Int.reduceSub, Int.reduceMul, Int.reduceLT, Int.reduceLE, Int.reduceEq, Int.reduceNeg, Int.reduceNe, Int.reduceGE, Int.reduceGT, Nat.reduceBEq, Int.reduceToNat]
                    repeat' (first | with_reducible rfl | (refine And.intro ?_ ?_) | (refine congrArg (Value.int _) ?_; omega) | omega)
                  · intro j ⟨hj, hpre⟩
                    simp only [go_sem, hG, hP, Nat.reduceEqDiff, ↓reduceIte, reduceCtorEq, Nat.reduceAdd, Nat.reduceSub, Nat.reduceMul, Nat.reduceLT, Nat.reduceLeDiff, Int.reduceAdd, Int.reduceSub, Int.reduceMul, Int.reduceLT, Int.reduceLE, Int.reduceEq, Int.reduceNeg, Int.reduceNe, Int.reduceGE, Int.reduceGT, Nat.reduceBEq, Int.reduceToNat,  spIn_f, spIn_t]
                    (try simp (disch := omega) only [wrap_id])
                    refine ⟨fun hlt => ?_, fun hge => ?_⟩
                    · repeat (refine And.intro (by first | omega | (simp; done) | (simp; omega) | (unfold appRoom; omega)) ?_)
                      refine ⟨fun hK => ⟨fun hn => ⟨_, _, _, ?_, h⟩, fun hy => ⟨j + 1, ⟨⟨by omega, upto_succ hpre (by simp only [noteOk, decide_eq_true hK, decide_eq_true hy, Bool.and_true])⟩, by omega⟩, SubS.weak ?_⟩⟩, fun hK => ⟨_, _, _, ?_, h⟩⟩
                      · simp only [go_sem, hG, hP, Nat.reduceEqDiff, ↓reduceIte, reduceCtorEq, Nat.reduceAdd, Nat.reduceSub, Nat.reduceMul, Nat.reduceLT, Nat.reduceLeDiff, Int.reduceAdd, Int.reduceSub, Int.reduceMul, Int.reduceLT, Int.reduceLE, Int.reduceEq, Int.reduceNeg, Int.reduceNe, Int.reduceGE, Int.reduceGT, Nat.reduceBEq, Int.reduceToNat]
                        have e : q1.all (noteOk c0.length) = false := all_no (d := (⟨0, 0⟩ : Note)) (j := j) (by omega) (by simp only [noteOk, decide_eq_false hn, Bool.and_false])
                        simp [trOk, sideOk, e]
                      · simp only [go_sem, hG, hP, Nat.reduceEqDiff, ↓reduceIte, reduceCtorEq, Nat.reduceAdd, Nat.reduceSub, Nat.reduceMul, Nat.reduceLT, Nat.reduceLeDiff, Int.reduceAdd, Int.reduceSub, Int.reduceMul, Int.reduceLT, Int.reduceLE, Int.reduceEq, Int.reduceNeg, Int.reduceNe, Int.reduceGE, Int.reduceGT, Nat.reduceBEq, Int.reduceToNat]
                        repeat' (first | with_reducible rfl | (refine And.intro ?_ ?_) | (refine congrArg (Value.int _) ?_; omega) | omega)
                      · simp only [go_sem, hG, hP, Nat.reduceEqDiff, ↓reduceIte, reduceCtorEq, Nat.reduceAdd, Nat.reduceSub, Nat.reduceMul, Nat.reduceLT, Nat.reduceLeDiff, Int.reduceAdd, Int.reduceSub, Int.reduceMul, Int.reduceLT, Int.reduceLE, Int.reduceEq, Int.reduceNeg, Int.reduceNe, Int.reduceGE, Int.reduceGT, Nat.reduceBEq, Int.reduceToNat]
                        have e : q1.all (noteOk c0.length) = false := all_no (d := (⟨0, 0⟩ : Note)) (j := j) (by omega) (by simp only [noteOk, decide_eq_false hK, Bool.false_and])
                        simp [trOk, sideOk, e]
                    · have hQ1 : q1.all (noteOk c0.length) = true := all_yes hpre (by omega)
                      refine ⟨fun hK => ⟨fun hn => ⟨_, _, _, ?_, h⟩, fun hy => ?_⟩, fun hK => ⟨_, _, _, ?_, h⟩⟩
                      · simp only [go_sem, hG, hP, Nat.reduceEqDiff, ↓reduceIte, reduceCtorEq, Nat.reduceAdd, Nat.reduceSub, Nat.reduceMul, Nat.reduceLT, Nat.reduceLeDiff, Int.reduceAdd, Int.reduceSub, Int.reduceMul, Int.reduceLT, Int.reduceLE, Int.reduceEq, Int.reduceNeg, Int.reduceNe, Int.reduceGE, Int.reduceGT, Nat.reduceBEq, Int.reduceToNat]
                        have e : restOk q1 y = false := by simp [restOk]; omega
                        simp [trOk, sideOk, e]
                      · have hR1 : restOk q1 y = true := by simp [restOk]; omega
                        refine ⟨_, _, _, ?_, h⟩
                        simp only [go_sem, hG, hP, Nat.reduceEqDiff, ↓reduceIte, reduceCtorEq, Nat.reduceAdd, Nat.reduceSub, Nat.reduceMul, Nat.reduceLT, Nat.reduceLeDiff, Int.reduceAdd, Int.reduceSub, Int.reduceMul, Int.reduceLT, Int.reduceLE, Int.reduceEq, Int.reduceNeg, Int.reduceNe, Int.reduceGE, Int.reduceGT, Nat.reduceBEq, Int.reduceToNat]
                        simp [trOk, sideOk, hH, hC0, hQ0, hR0, hC1, hQ1, hR1]
                      · simp only [go_sem, hG, hP, Nat.reduceEqDiff, ↓reduceIte, reduceCtorEq, Nat.reduceAdd, Nat.reduceSub, Nat.reduceMul, Nat.reduceLT, Nat.reduceLeDiff, Int.reduceAdd, Int.reduceSub, Int.reduceMul, Int.reduceLT, Int.reduceLE, Int.reduceEq, Int.reduceNeg, Int.reduceNe, Int.reduceGE, Int.reduceGT, Nat.reduceBEq, Int.reduceToNat]
                        have e : restOk q1 y = false := by simp [restOk]; omega
                        simp [trOk, sideOk, e]
            · simp only [go_sem, hG, hP, Nat.reduceEqDiff, ↓reduceIte, reduceCtorEq, Nat.reduceAdd, Nat.reduceSub, Nat.reduceMul, Nat.reduceLT, Nat.reduceLeDiff, Int.reduceAdd, Int.reduceSub, Int.reduceMul, Int.reduceLT, Int.reduceLE, Int.reduceEq, Int.reduceNeg, Int.reduceNe, Int.reduceGE, Int.reduceGT, Nat.reduceBEq, Int.reduceToNat]
              have e : restOk q0 x = false := by simp [restOk]; omega
              simp [trOk, sideOk, e]
  · exact h.elim
theorem valid24 : Valid Try.prog 24 spTrOk := by
  refine validI (Γ := lk [(30, spIn)]) Try.func24 bod24 low24 res24 (good_of ⟨⟨cal30, valid30⟩, trivial⟩) ?_
  intro E args objs K h hE hG hP
  simp only [spTrOk] at h
  split at h
  · refine ⟨by simp [Try.ntmps24], ?_⟩
    rename_i c0 c1 x y q0 q1
    obtain ⟨⟨b1, b2, b3, b4⟩, h⟩ := h
    simp only [go_sem, hG, hP, Nat.reduceEqDiff, ↓reduceIte, reduceCtorEq, Nat.reduceAdd, Nat.reduceSub, Nat.reduceMul, Nat.reduceLT, Nat.reduceLeDiff, Int.reduceAdd, Int.reduceSub, Int.reduceMul, Int.reduceLT, Int.reduceLE, Int.reduceEq, Int.reduceNeg, Int.reduceNe, Int.reduceGE, Int.reduceGT, Nat.reduceBEq, Int.reduceToNat,  spIn_f, spIn_t]
    refine ⟨fun hB => ⟨fun hA => ⟨_, _, _, ?_, h⟩, fun hA => ?_⟩, fun hB => ⟨_, _, _, ?_, h⟩⟩
    · simp only [go_sem, hG, hP, Nat.reduceEqDiff, ↓reduceIte, reduceCtorEq, Nat.reduceAdd, Nat.reduceSub, Nat.reduceMul, Nat.reduceLT, Nat.reduceLeDiff, Int.reduceAdd, Int.reduceSub, Int.reduceMul, Int.reduceLT, Int.reduceLE, Int.reduceEq, Int.reduceNeg, Int.reduceNe, Int.reduceGE, Int.reduceGT, Nat.reduceBEq, Int.reduceToNat]
      have hA' : ¬ (c0.length : Int) = c1.length := fun e => hA e.symm
      simp [trOk, headOk, hA']
    rotate_left
    · simp only [go_sem, hG, hP, Nat.reduceEqDiff, ↓reduceIte, reduceCtorEq, Nat.reduceAdd, Nat.reduceSub, Nat.reduceMul, Nat.reduceLT, Nat.reduceLeDiff, Int.reduceAdd, Int.reduceSub, Int.reduceMul, Int.reduceLT, Int.reduceLE, Int.reduceEq, Int.reduceNeg, Int.reduceNe, Int.reduceGE, Int.reduceGT, Nat.reduceBEq, Int.reduceToNat]
      simp [trOk, headOk, hB]
    have hA : (c0.length : Int) = c1.length := by omega
    have hH : headOk ⟨c0, c1, x, y, q0, q1⟩ = true := by simp [headOk, hA, hB]; omega
    refine unrollI hE [(), (), ()] ?_
    simp only [go_sem, hG, hP, Nat.reduceEqDiff, ↓reduceIte, reduceCtorEq, Nat.reduceAdd, Nat.reduceSub, Nat.reduceMul, Nat.reduceLT, Nat.reduceLeDiff, Int.reduceAdd, Int.reduceSub, Int.reduceMul, Int.reduceLT, Int.reduceLE, Int.reduceEq, Int.reduceNeg, Int.reduceNe, Int.reduceGE, Int.reduceGT, Nat.reduceBEq, Int.reduceToNat]
    refine loopI hE (fun j : Nat => ⟨[(1, .ptr 0 0), (3, .v (.int .i64 c0.length)), (4, .v (.int .i64 0)), (5, .v (.int .i64 j))], [(0, .box [.rs .int c0, .rs .int c1, .v (.int .i64 x), .v (.int .i64 y), .rs .note q0, .rs .note q1])], 1, Try.f24.ntmps⟩) (fun j => j ≤ c0.length ∧ ∀ i, i < j → circOk (c0.getD i 0) = true) (fun j => c0.length - j) ⟨0, ⟨Nat.zero_le _, fun i hi => absurd hi (Nat.not_lt_zero _)⟩, SubS.weak ?_⟩ ?_
    · simp only [go_sem, hG, hP, Nat.reduceEqDiff, ↓reduceIte, reduceCtorEq, Nat.reduceAdd, Nat.reduceSub, Nat.reduceMul, Nat.reduceLT, Nat.reduceLeDiff, Int.reduceAdd, Int.reduceSub, Int.reduceMul, Int.reduceLT, Int.reduceLE, Int.reduceEq, Int.reduceNeg, Int.reduceNe, Int.reduceGE, Int.reduceGT, Nat.reduceBEq, Int.reduceToNat]
      repeat' (first | with_reducible rfl | (refine And.intro ?_ ?_) | (refine congrArg (Value.int _) ?_; omega) | omega)
    · intro j ⟨hj, hpre⟩
      simp only [go_sem, hG, hP, Nat.reduceEqDiff, ↓reduceIte, reduceCtorEq, Nat.reduceAdd, Nat.reduceSub, Nat.reduceMul, Nat.reduceLT, Nat.reduceLeDiff, Int.reduceAdd, Int.reduceSub, Int.reduceMul, Int.reduceLT, Int.reduceLE, Int.reduceEq, Int.reduceNeg, Int.reduceNe, Int.reduceGE, Int.reduceGT, Nat.reduceBEq, Int.reduceToNat,  spIn_f, spIn_t]
      (try simp (disch := omega) only [wrap_id])
      refine ⟨fun hlt => ?_, fun hge => ?_⟩
      · repeat (refine And.intro (by first | omega | (simp; done) | (simp; omega) | (unfold appRoom; omega)) ?_)
        refine ⟨fun hn => ⟨_, _, _, ?_, h⟩, fun hy => ⟨j + 1, ⟨⟨by omega, upto_succ hpre (by simpa [circOk] using hy)⟩, by omega⟩, SubS.weak ?_⟩⟩
        · simp only [go_sem, hG, hP, Nat.reduceEqDiff, ↓reduceIte, reduceCtorEq, Nat.reduceAdd, Nat.reduceSub, Nat.reduceMul, Nat.reduceLT, Nat.reduceLeDiff, Int.reduceAdd, Int.reduceSub, Int.reduceMul, Int.reduceLT, Int.reduceLE, Int.reduceEq, Int.reduceNeg, Int.reduceNe, Int.reduceGE, Int.reduceGT, Nat.reduceBEq, Int.reduceToNat]
          have e : c0.all circOk = false := all_no (d := (0 : Int)) (j := j) (by omega) (by simpa [circOk] using hn)
          simp [trOk, sideOk, e]
        · simp only [go_sem, hG, hP, Nat.reduceEqDiff, ↓reduceIte, reduceCtorEq, Nat.reduceAdd, Nat.reduceSub, Nat.reduceMul, Nat.reduceLT, Nat.reduceLeDiff, Int.reduceAdd, Int.reduceSub, Int.reduceMul, Int.reduceLT, Int.reduceLE, Int.reduceEq, Int.reduceNeg, Int.reduceNe, Int.reduceGE, Int.reduceGT, Nat.reduceBEq, Int.reduceToNat]
          repeat' (first | with_reducible rfl | (refine And.intro ?_ ?_) | (refine congrArg (Value.int _) ?_; omega) | omega)
      · have hC0 : c0.all circOk = true := all_yes hpre (by omega)
        refine loopI hE (fun j : Nat => ⟨[(1, .ptr 0 0), (3, .v (.int .i64 c0.length)), (4, .v (.int .i64 0)), (6, .v (.int .i64 j))], [(0, .box [.rs .int c0, .rs .int c1, .v (.int .i64 x), .v (.int .i64 y), .rs .note q0, .rs .note q1])], 1, Try.f24.ntmps⟩) (fun j => j ≤ q0.length ∧ ∀ i, i < j → noteOk c0.length (q0.getD i ⟨0, 0⟩) = true) (fun j => q0.length - j) ⟨0, ⟨Nat.zero_le _, fun i hi => absurd hi (Nat.not_lt_zero _)⟩, SubS.weak ?_⟩ ?_
        · simp only [go_sem, hG, hP, Nat.reduceEqDiff, ↓reduceIte, reduceCtorEq, Nat.reduceAdd, Nat.reduceSub, Nat.reduceMul, Nat.reduceLT, Nat.reduceLeDiff, Int.reduceAdd, Int.reduceSub, Int.reduceMul, Int.reduceLT, Int.reduceLE, Int.reduceEq, Int.reduceNeg, Int.reduceNe, Int.reduceGE, Int.reduceGT, Nat.reduceBEq, Int.reduceToNat]
          repeat' (first | with_reducible rfl | (refine And.intro ?_ ?_) | (refine congrArg (Value.int _) ?_; omega) | omega)
        · intro j ⟨hj, hpre⟩
          simp only [go_sem, hG, hP, Nat.reduceEqDiff, ↓reduceIte, reduceCtorEq, Nat.reduceAdd, Nat.reduceSub, Nat.reduceMul, Nat.reduceLT, Nat.reduceLeDiff, Int.reduceAdd, Int.reduceSub, Int.reduceMul, Int.reduceLT, Int.reduceLE, Int.reduceEq, Int.reduceNeg, Int.reduceNe, Int.reduceGE, Int.reduceGT, Nat.reduceBEq, Int.reduceToNat,  spIn_f, spIn_t]
          (try simp (disch := omega) only [wrap_id])
          refine ⟨fun hlt => ?_, fun hge => ?_⟩
          · repeat (refine And.intro (by first | omega | (simp; done) | (simp; omega) | (unfold appRoom; omega)) ?_)
            refine ⟨fun hK => ?_, fun hK => ⟨_, _, _, ?_, h⟩⟩
            · repeat (refine And.intro (by first | omega | (simp; done) | (simp; omega) | (unfold appRoom; omega)) ?_)
              refine ⟨fun hn => ⟨_, _, _, ?_, h⟩, fun hy => ⟨j + 1, ⟨⟨by omega, upto_succ hpre (by simp only [noteOk, decide_eq_true hK, decide_eq_true hy, Bool.and_true])⟩, by omega⟩, SubS.weak ?_⟩⟩
              · simp only [go_sem, hG, hP, Nat.reduceEqDiff, ↓reduceIte, reduceCtorEq, Nat.reduceAdd, Nat.reduceSub, Nat.reduceMul, Nat.reduceLT, Nat.reduceLeDiff, Int.reduceAdd, Int.reduceSub, Int.reduceMul, Int.reduceLT, Int.reduceLE, Int.reduceEq, Int.reduceNeg, Int.reduceNe, Int.reduceGE, Int.reduceGT, Nat.reduceBEq, Int.reduceToNat]
                have e : q0.all (noteOk c0.length) = false := all_no (d := (⟨0, 0⟩ : Note)) (j := j) (by omega) (by simp only [noteOk, decide_eq_false hn, Bool.and_false])
                simp [trOk, sideOk, e]
              · simp only [go_sem, hG, hP, Nat.reduceEqDiff, ↓reduceIte, reduceCtorEq, Nat.reduceAdd, Nat.reduceSub, Nat.reduceMul, Nat.reduceLT, Nat.reduceLeDiff, Int.reduceAdd, Int.reduceSub, Int.reduceMul, Int.reduceLT, Int.reduceLE, Int.reduceEq, Int.reduceNeg, Int.reduceNe, Int.reduceGE, Int.reduceGT, Nat.reduceBEq, Int.reduceToNat]
                repeat' (first | with_reducible rfl | (refine And.intro ?_ ?_) | (refine congrArg (Value.int _) ?_; omega) | omega)
            · simp only [go_sem, hG, hP, Nat.reduceEqDiff, ↓reduceIte, reduceCtorEq, Nat.reduceAdd, Nat.reduceSub, Nat.reduceMul, Nat.reduceLT, Nat.reduceLeDiff, Int.reduceAdd, Int.reduceSub, Int.reduceMul, Int.reduceLT, Int.reduceLE, Int.reduceEq, Int.reduceNeg, Int.reduceNe, Int.reduceGE, Int.reduceGT, Nat.reduceBEq, Int.reduceToNat]
              have e : q0.all (noteOk c0.length) = false := all_no (d := (⟨0, 0⟩ : Note)) (j := j) (by omega) (by simp only [noteOk, decide_eq_false hK, Bool.false_and])
              simp [trOk, sideOk, e]
          · have hQ0 : q0.all (noteOk c0.length) = true := all_yes hpre (by omega)
            refine ⟨fun hK => ⟨fun hn => ⟨_, _, _, ?_, h⟩, fun hy => ?_⟩, fun hK => ⟨_, _, _, ?_, h⟩⟩
            · simp only [go_sem, hG, hP, Nat.reduceEqDiff, ↓reduceIte, reduceCtorEq, Nat.reduceAdd, Nat.reduceSub, Nat.reduceMul, Nat.reduceLT, Nat.reduceLeDiff, Int.reduceAdd, Int.reduceSub, Int.reduceMul, Int.reduceLT, Int.reduceLE, Int.reduceEq, Int.reduceNeg, Int.reduceNe, Int.reduceGE, Int.reduceGT, Nat.reduceBEq, Int.reduceToNat]
              have e : restOk q0 x = false := by simp [restOk]; omega
              simp [trOk, sideOk, e]
            · have hR0 : restOk q0 x = true := by simp [restOk]; omega
              refine loopI hE (fun j : Nat => ⟨[(1, .ptr 0 0), (3, .v (.int .i64 c0.length)), (4, .v (.int .i64 1)), (5, .v (.int .i64 j))], [(0, .box [.rs .int c0, .rs .int c1, .v (.int .i64 x), .v (.int .i64 y), .rs .note q0, .rs .note q1])], 1, Try.f24.ntmps⟩) (fun j => j ≤ c1.length ∧ ∀ i, i < j → circOk (c1.getD i 0) = true) (fun j => c1.length - j) ⟨0, ⟨Nat.zero_le _, fun i hi => absurd hi (Nat.not_lt_zero _)⟩, SubS.weak ?_⟩ ?_
              · simp only [go_sem, hG, hP, Nat.reduceEqDiff, ↓reduceIte, reduceCtorEq, Nat.reduceAdd, Nat.reduceSub, Nat.reduceMul, Nat.reduceLT, Nat.reduceLeDiff, Int.reduceAdd, Int.reduceSub, Int.reduceMul, Int.reduceLT, Int.reduceLE, Int.reduceEq, Int.reduceNeg, Int.reduceNe, Int.reduceGE, Int.reduceGT, Nat.reduceBEq, Int.reduceToNat]
                repeat' (first | with_reducible rfl | (refine And.intro ?_ ?_) | (refine congrArg (Value.int _) ?_; omega) | omega)
              · intro j ⟨hj, hpre⟩
                simp only [go_sem, hG, hP, Nat.reduceEqDiff, ↓reduceIte, reduceCtorEq, Nat.reduceAdd, Nat.reduceSub, Nat.reduceMul, Nat.reduceLT, Nat.reduceLeDiff, Int.reduceAdd, Int.reduceSub, Int.reduceMul, Int.reduceLT, Int.reduceLE, Int.reduceEq, Int.reduceNeg, Int.reduceNe, Int.reduceGE, Int.reduceGT, Nat.reduceBEq, Int.reduceToNat,  spIn_f, spIn_t]
                (try simp (disch := omega) only [wrap_id])
                refine ⟨fun hlt => ?_, fun hge => ?_⟩
                · repeat (refine And.intro (by first | omega | (simp; done) | (simp; omega) | (unfold appRoom; omega)) ?_)
                  refine ⟨fun hn => ⟨_, _, _, ?_, h⟩, fun hy => ⟨j + 1, ⟨⟨by omega, upto_succ hpre (by simpa [circOk] using hy)⟩, by omega⟩, SubS.weak ?_⟩⟩
                  · simp only [go_sem, hG, hP, Nat.reduceEqDiff, ↓reduceIte, reduceCtorEq, Nat.reduceAdd, Nat.reduceSub, Nat.reduceMul, Nat.reduceLT, Nat.reduceLeDiff, Int.reduceAdd, Int.reduceSub, Int.reduceMul, Int.reduceLT, Int.reduceLE, Int.reduceEq, Int.reduceNeg, Int.reduceNe, Int.reduceGE, Int.reduceGT, Nat.reduceBEq, Int.reduceToNat]
                    have e : c1.all circOk = false := all_no (d := (0 : Int)) (j := j) (by omega) (by simpa [circOk] using hn)
                    simp [trOk, sideOk, e]
                  · simp only [go_sem, hG, hP, Nat.reduceEqDiff, ↓reduceIte, reduceCtorEq, Nat.reduceAdd, Nat.reduceSub, Nat.reduceMul, Nat.reduceLT, Nat.reduceLeDiff, Int.reduceAdd, Int.reduceSub, Int.reduceMul, Int.reduceLT, Int.reduceLE, Int.reduceEq, Int.reduceNeg, Int.reduceNe, Int.reduceGE, Int.reduceGT, Nat.reduceBEq, Int.reduceToNat]
                    repeat' (first | with_reducible rfl | (refine And.intro ?_ ?_) | (refine congrArg (Value.int _) ?_; omega) | omega)
                · have hC1 : c1.all circOk = true := all_yes hpre (by omega)
                  refine loopI hE (fun j : Nat => ⟨[(1, .ptr 0 0), (3, .v (.int .i64 c0.length)), (4, .v (.int .i64 1)), (6, .v (.int .i64 j))], [(0, .box [.rs .int c0, .rs .int c1, .v (.int .i64 x), .v (.int .i64 y), .rs .note q0, .rs .note q1])], 1, Try.f24.ntmps⟩) (fun j => j ≤ q1.length ∧ ∀ i, i < j → noteOk c0.length (q1.getD i ⟨0, 0⟩) = true) (fun j => q1.length - j) ⟨0, ⟨Nat.zero_le _, fun i hi => absurd hi (Nat.not_lt_zero _)⟩, SubS.weak ?_⟩ ?_
                  · simp only [go_sem, hG, hP, Nat.reduceEqDiff, ↓reduceIte, reduceCtorEq, Nat.reduceAdd, Nat.reduceSub, Nat.reduceMul, Nat.reduceLT, Nat.reduceLeDiff, Int.reduceAdd, Int.reduceSub, Int.reduceMul, Int.reduceLT, Int.reduceLE, Int.reduceEq, Int.reduceNeg, Int.reduceNe, Int.reduceGE, Int.reduceGT, Nat.reduceBEq, Int.reduceToNat]
                    repeat' (first | with_reducible rfl | (refine And.intro ?_ ?_) | (refine congrArg (Value.int _) ?_; omega) | omega)
                  · intro j ⟨hj, hpre⟩
                    simp only [go_sem, hG, hP, Nat.reduceEqDiff, ↓reduceIte, reduceCtorEq, Nat.reduceAdd, Nat.reduceSub, Nat.reduceMul, Nat.reduceLT, Nat.reduceLeDiff, Int.reduceAdd, Int.reduceSub, Int.reduceMul, Int.reduceLT, Int.reduceLE, Int.reduceEq, Int.reduceNeg, Int.reduceNe, Int.reduceGE, Int.reduceGT, Nat.reduceBEq, Int.reduceToNat,  spIn_f, spIn_t]
                    (try simp (disch := omega) only [wrap_id])
                    refine ⟨fun hlt => ?_, fun hge => ?_⟩
                    · repeat (refine And.intro (by first | omega | (simp; done) | (simp; omega) | (unfold appRoom; omega)) ?_)
                      refine ⟨fun hK => ?_, fun hK => ⟨_, _, _, ?_, h⟩⟩
                      · repeat (refine And.intro (by first | omega | (simp; done) | (simp; omega) | (unfold appRoom; omega)) ?_)
                        refine ⟨fun hn => ⟨_, _, _, ?_, h⟩, fun hy => ⟨j + 1, ⟨⟨by omega, upto_succ hpre (by simp only [noteOk, decide_eq_true hK, decide_eq_true hy, Bool.and_true])⟩, by omega⟩, SubS.weak ?_⟩⟩
                        · simp only [go_sem, hG, hP, Nat.reduceEqDiff, ↓reduceIte, reduceCtorEq, Nat.reduceAdd, Nat.reduceSub, Nat.reduceMul, Nat.reduceLT, Nat.reduceLeDiff, Int.reduceAdd, Int.reduceSub, Int.reduceMul, Int.reduceLT, Int.reduceLE, Int.reduceEq, Int.reduceNeg, Int.reduceNe, Int.reduceGE, Int.reduceGT, Nat.reduceBEq, Int.reduceToNat]
                          have e : q1.all (noteOk c0.length) = false := all_no (d := (⟨0, 0⟩ : Note)) (j := j) (by omega) (by simp only [noteOk, decide_eq_false hn, Bool.and_false])
                          simp [trOk, sideOk, e]
                        · simp only [go_sem, hG, hP, Nat.reduceEqDiff, ↓reduceIte, reduceCtorEq, Nat.reduceAdd, Nat.reduceSub, Nat.reduceMul, Nat.reduceLT, Nat.reduceLeDiff, Int.reduceAdd, Int.reduceSub, Int.reduceMul, Int.reduceLT, Int.reduceLE, Int.reduceEq, Int.reduceNeg, Int.reduceNe, Int.reduceGE, Int.reduceGT, Nat.reduceBEq, Int.reduceToNat]
                          repeat' (first | with_reducible rfl | (refine And.intro ?_ ?_) | (refine congrArg (Value.int _) ?_; omega) | omega)
                      · simp only [go_sem, hG, hP, Nat.reduceEqDiff, ↓reduceIte, reduceCtorEq, Nat.reduceAdd, Nat.reduceSub, Nat.reduceMul, Nat.reduceLT, Nat.reduceLeDiff, Int.reduceAdd, Int.reduceSub, Int.reduceMul, Int.reduceLT, Int.reduceLE, Int.reduceEq, Int.reduceNeg, Int.reduceNe, Int.reduceGE, Int.reduceGT, Nat.reduceBEq, Int.reduceToNat]
                        have e : q1.all (noteOk c0.length) = false := all_no (d := (⟨0, 0⟩ : Note)) (j := j) (by omega) (by simp only [noteOk, decide_eq_false hK, Bool.false_and])
                        simp [trOk, sideOk, e]
                    · have hQ1 : q1.all (noteOk c0.length) = true := all_yes hpre (by omega)
                      refine ⟨fun hK => ⟨fun hn => ⟨_, _, _, ?_, h⟩, fun hy => ?_⟩, fun hK => ⟨_, _, _, ?_, h⟩⟩
                      · simp only [go_sem, hG, hP, Nat.reduceEqDiff, ↓reduceIte, reduceCtorEq, Nat.reduceAdd, Nat.reduceSub, Nat.reduceMul, Nat.reduceLT, Nat.reduceLeDiff, Int.reduceAdd, Int.reduceSub, Int.reduceMul, Int.reduceLT, Int.reduceLE, Int.reduceEq, Int.reduceNeg, Int.reduceNe, Int.reduceGE, Int.reduceGT, Nat.reduceBEq, Int.reduceToNat]
                        have e : restOk q1 y = false := by simp [restOk]; omega
                        simp [trOk, sideOk, e]
                      · have hR1 : restOk q1 y = true := by simp [restOk]; omega
                        refine ⟨_, _, _, ?_, h⟩
                        simp only [go_sem, hG, hP, Nat.reduceEqDiff, ↓reduceIte, reduceCtorEq, Nat.reduceAdd, Nat.reduceSub, Nat.reduceMul, Nat.reduceLT, Nat.reduceLeDiff, Int.reduceAdd, Int.reduceSub, Int.reduceMul, Int.reduceLT, Int.reduceLE, Int.reduceEq, Int.reduceNeg, Int.reduceNe, Int.reduceGE, Int.reduceGT, Nat.reduceBEq, Int.reduceToNat]
                        simp [trOk, sideOk, hH, hC0, hQ0, hR0, hC1, hQ1, hR1]
                      · simp only [go_sem, hG, hP, Nat.reduceEqDiff, ↓reduceIte, reduceCtorEq, Nat.reduceAdd, Nat.reduceSub, Nat.reduceMul, Nat.reduceLT, Nat.reduceLeDiff, Int.reduceAdd, Int.reduceSub, Int.reduceMul, Int.reduceLT, Int.reduceLE, Int.reduceEq, Int.reduceNeg, Int.reduceNe, Int.reduceGE, Int.reduceGT, Nat.reduceBEq, Int.reduceToNat]
                        have e : restOk q1 y = false := by simp [restOk]; omega
                        simp [trOk, sideOk, e]
            · simp only [go_sem, hG, hP, Nat.reduceEqDiff, ↓reduceIte, reduceCtorEq, Nat.reduceAdd, Nat.reduceSub, Nat.reduceMul, Nat.reduceLT, Nat.reduceLeDiff, Int.reduceAdd, Int.reduceSub, Int.reduceMul, Int.reduceLT, Int.reduceLE, Int.reduceEq, Int.reduceNeg, Int.reduceNe, Int.reduceGE, Int.reduceGT, Nat.reduceBEq, Int.reduceToNat]
              have e : restOk q0 x = false := by simp [restOk]; omega
              simp [trOk, sideOk, e]
  · exact h.elim
end Go.Proofs.YtfgefmkcmkihhaaE

/-! The code of a function, in the engine's words. -/
namespace Go.Proofs.YtfgefmkcmkihhaaE
open Go Go.RowKit
@[reducible] def ic9 : IC := (.seq (.ops [⟨some 3, .box (.tmp 0), none⟩, ⟨some 6, .new [(.slice none 0 0), (.slice none 0 0), (.int .i64 0), (.int .i64 0), (.slice none 0 0), (.slice none 0 0)], none⟩, ⟨some 7, .mov (.const (.bool false)), none⟩]) (.seq (.ops [⟨some 10, .load 6 true (.tmp 3), none⟩, ⟨some 11, .call 29 [(.tmp 10)], none⟩, ⟨none, .store 6 (.tmp 3) (.tmp 11), none⟩]) (.seq (.seq (.ops [⟨some 12, .load 6 true (.tmp 3), none⟩, ⟨some 13, .call 24 [(.tmp 12)], none⟩, ⟨some 14, .una .not (.tmp 13), none⟩, ⟨some 15, .mov (.tmp 14), none⟩, ⟨some 16, .mov (.tmp 1), some (15, false)⟩, ⟨some 17, .call 30 [(.tmp 16), (.const (.int .i64 0)), (.const (.int .i64 1))], some (15, false)⟩, ⟨some 18, .una .not (.tmp 17), some (15, false)⟩, ⟨some 19, .pick (.tmp 15) (.const (.bool true)) (.tmp 18), none⟩, ⟨some 20, .mov (.tmp 19), none⟩, ⟨some 21, .mov (.tmp 2), some (20, false)⟩, ⟨some 22, .fadr 0 (.tmp 3), some (20, false)⟩, ⟨some 23, .iarr 1 2 (.tmp 22) (.const (.int .i64 0)), some (20, false)⟩, ⟨some 24, .load 1 false (.tmp 23), some (20, false)⟩, ⟨some 25, .len (.tmp 24), some (20, false)⟩, ⟨some 26, .bin .sub (.tmp 25) (.const (.int .i64 1)), some (20, false)⟩, ⟨some 27, .call 30 [(.tmp 21), (.const (.int .i64 0)), (.tmp 26)], some (20, false)⟩, ⟨some 28, .una .not (.tmp 27), some (20, false)⟩, ⟨some 29, .pick (.tmp 20) (.const (.bool true)) (.tmp 28), none⟩, ⟨some 30, .mov (.tmp 29), none⟩, ⟨some 31, .mov (.tmp 1), some (30, false)⟩, ⟨some 32, .fadr 0 (.tmp 3), some (30, false)⟩, ⟨some 33, .iarr 1 2 (.tmp 32) (.tmp 31), some (30, false)⟩, ⟨some 34, .load 1 false (.tmp 33), some (30, false)⟩, ⟨some 35, .mov (.tmp 2), some (30, false)⟩, ⟨some 36, .iadr 1 (.tmp 34) (.tmp 35), some (30, false)⟩, ⟨some 37, .load 1 false (.tmp 36), some (30, false)⟩, ⟨some 38, .bin .neq (.tmp 37) (.const (.int .i64 2)), some (30, false)⟩, ⟨some 39, .pick (.tmp 30) (.const (.bool true)) (.tmp 38), none⟩]) (.cond (.tmp 39) (.seq (.ops [⟨some 40, .load 6 true (.tmp 3), none⟩, ⟨none, .store 6 (.tmp 6) (.tmp 40), none⟩, ⟨some 7, .mov (.const (.bool false)), none⟩]) .ret) .skip)) (.seq (.ops [⟨some 42, .load 6 true (.tmp 3), none⟩, ⟨some 43, .call 29 [(.tmp 42)], none⟩, ⟨some 44, .mov (.tmp 1), none⟩, ⟨some 45, .bin .sub (.const (.int .i64 1)) (.tmp 44), none⟩, ⟨some 46, .mov (.tmp 2), none⟩, ⟨some 47, .call 31 [(.tmp 43), (.tmp 45), (.const (.int .i64 4)), (.tmp 46)], none⟩, ⟨some 41, .mov (.tmp 47), none⟩, ⟨some 48, .ext (.tmp 41) 0, none⟩, ⟨some 49, .ext (.tmp 41) 1, none⟩, ⟨some 8, .new [(.slice none 0 0), (.slice none 0 0), (.int .i64 0), (.int .i64 0), (.slice none 0 0), (.slice none 0 0)], none⟩, ⟨none, .store 6 (.tmp 8) (.tmp 48), none⟩, ⟨some 9, .mov (.tmp 49), none⟩]) (.seq (.seq (.ops [⟨some 50, .mov (.tmp 9), none⟩, ⟨some 51, .una .not (.tmp 50), none⟩]) (.cond (.tmp 51) (.seq (.ops [⟨some 52, .load 6 true (.tmp 3), none⟩, ⟨none, .store 6 (.tmp 6) (.tmp 52), none⟩, ⟨some 7, .mov (.const (.bool false)), none⟩]) .ret) .skip)) (.seq (.ops [⟨some 53, .mov (.tmp 1), none⟩, ⟨some 54, .fadr 0 (.tmp 8), none⟩, ⟨some 55, .iarr 1 2 (.tmp 54) (.tmp 53), none⟩, ⟨some 56, .load 1 false (.tmp 55), none⟩, ⟨some 57, .mov (.tmp 2), none⟩, ⟨some 58, .iadr 1 (.tmp 56) (.tmp 57), none⟩, ⟨none, .store 1 (.tmp 58) (.const (.int .i64 4)), none⟩]) (.seq (.ops [⟨some 59, .load 6 true (.tmp 8), none⟩, ⟨none, .store 6 (.tmp 6) (.tmp 59), none⟩, ⟨some 7, .mov (.const (.bool true)), none⟩]) .ret)))))))
@[reducible] def rv9 : List RV := [.cell 6 6 true, .tmp 7]
theorem low9 : lowC Try.prog tau Try.f9.ntmps (Try.f9.body.getD .skip) = some (erase ic9) := by kernel_rfl
theorem res9 : lowR Try.prog Try.f9.results.toList = some rv9 := by kernel_rfl
theorem bod9 : Try.f9.body = some (Try.f9.body.getD .skip) := by kernel_rfl
theorem cal9 : callable Try.prog 9 = true := by kernel_rfl

end Go.Proofs.YtfgefmkcmkihhaaE

/-! The code of a function, in the engine's words. -/
namespace Go.Proofs.YtfgefmkcmkihhaaE
open Go Go.RowKit
@[reducible] def ic11 : IC := (.seq (.ops [⟨some 3, .box (.tmp 0), none⟩, ⟨some 6, .new [(.slice none 0 0), (.slice none 0 0), (.int .i64 0), (.int .i64 0), (.slice none 0 0), (.slice none 0 0)], none⟩, ⟨some 7, .mov (.const (.bool false)), none⟩]) (.seq (.ops [⟨some 8, .load 6 true (.tmp 3), none⟩, ⟨some 9, .call 35 [(.tmp 8)], none⟩, ⟨none, .store 6 (.tmp 3) (.tmp 9), none⟩]) (.seq (.seq (.ops [⟨some 10, .load 6 true (.tmp 3), none⟩, ⟨some 11, .call 36 [(.tmp 10)], none⟩, ⟨some 12, .una .not (.tmp 11), none⟩, ⟨some 13, .mov (.tmp 12), none⟩, ⟨some 14, .mov (.tmp 1), some (13, false)⟩, ⟨some 15, .call 37 [(.tmp 14), (.const (.int .i64 0)), (.const (.int .i64 1))], some (13, false)⟩, ⟨some 16, .una .not (.tmp 15), some (13, false)⟩, ⟨some 17, .pick (.tmp 13) (.const (.bool true)) (.tmp 16), none⟩, ⟨some 18, .mov (.tmp 17), none⟩, ⟨some 19, .mov (.tmp 2), some (18, false)⟩, ⟨some 20, .fadr 0 (.tmp 3), some (18, false)⟩, ⟨some 21, .iarr 1 2 (.tmp 20) (.const (.int .i64 0)), some (18, false)⟩, ⟨some 22, .load 1 false (.tmp 21), some (18, false)⟩, ⟨some 23, .len (.tmp 22), some (18, false)⟩, ⟨some 24, .bin .sub (.tmp 23) (.const (.int .i64 1)), some (18, false)⟩, ⟨some 25, .call 37 [(.tmp 19), (.const (.int .i64 0)), (.tmp 24)], some (18, false)⟩, ⟨some 26, .una .not (.tmp 25), some (18, false)⟩, ⟨some 27, .pick (.tmp 18) (.const (.bool true)) (.tmp 26), none⟩, ⟨some 28, .mov (.tmp 27), none⟩, ⟨some 29, .mov (.tmp 1), some (28, false)⟩, ⟨some 30, .fadr 0 (.tmp 3), some (28, false)⟩, ⟨some 31, .iarr 1 2 (.tmp 30) (.tmp 29), some (28, false)⟩, ⟨some 32, .load 1 false (.tmp 31), some (28, false)⟩, ⟨some 33, .mov (.tmp 2), some (28, false)⟩, ⟨some 34, .iadr 1 (.tmp 32) (.tmp 33), some (28, false)⟩, ⟨some 35, .load 1 false (.tmp 34), some (28, false)⟩, ⟨some 36, .bin .neq (.tmp 35) (.const (.int .i64 2)), some (28, false)⟩, ⟨some 37, .pick (.tmp 28) (.const (.bool true)) (.tmp 36), none⟩, ⟨some 38, .mov (.tmp 37), none⟩, ⟨some 39, .mov (.tmp 1), some (38, false)⟩, ⟨some 40, .bin .sub (.const (.int .i64 1)) (.tmp 39), some (38, false)⟩, ⟨some 41, .fadr 4 (.tmp 3), some (38, false)⟩, ⟨some 42, .iarr 1 2 (.tmp 41) (.tmp 40), some (38, false)⟩, ⟨some 43, .load 1 false (.tmp 42), some (38, false)⟩, ⟨some 44, .len (.tmp 43), some (38, false)⟩, ⟨some 45, .bin .eql (.tmp 44) (.const (.int .i64 60)), some (38, false)⟩, ⟨some 46, .pick (.tmp 38) (.const (.bool true)) (.tmp 45), none⟩]) (.cond (.tmp 46) (.seq (.ops [⟨some 47, .load 6 true (.tmp 3), none⟩, ⟨none, .store 6 (.tmp 6) (.tmp 47), none⟩, ⟨some 7, .mov (.const (.bool false)), none⟩]) .ret) .skip)) (.seq (.ops [⟨some 48, .mov (.tmp 1), none⟩, ⟨some 49, .fadr 0 (.tmp 3), none⟩, ⟨some 50, .iarr 1 2 (.tmp 49) (.tmp 48), none⟩, ⟨some 51, .load 1 false (.tmp 50), none⟩, ⟨some 52, .mov (.tmp 2), none⟩, ⟨some 53, .iadr 1 (.tmp 51) (.tmp 52), none⟩, ⟨none, .store 1 (.tmp 53) (.const (.int .i64 4)), none⟩]) (.seq (.ops [⟨some 54, .mov (.tmp 1), none⟩, ⟨some 55, .bin .sub (.const (.int .i64 1)) (.tmp 54), none⟩, ⟨some 56, .mov (.tmp 1), none⟩, ⟨some 57, .bin .sub (.const (.int .i64 1)) (.tmp 56), none⟩, ⟨some 58, .fadr 4 (.tmp 3), none⟩, ⟨some 59, .iarr 1 2 (.tmp 58) (.tmp 57), none⟩, ⟨some 60, .load 1 false (.tmp 59), none⟩, ⟨some 61, .mov (.tmp 2), none⟩, ⟨some 62, .bld [(.int .i64 0), (.int .i64 0)] [(0, 1, (.const (.int .i64 4))), (1, 1, (.tmp 61))], none⟩, ⟨some 63, .blds .note 1 [(0, 2, (.tmp 62))], none⟩, ⟨some 64, .app .note 16 (.tmp 60) (.tmp 63), none⟩, ⟨some 65, .fadr 4 (.tmp 3), none⟩, ⟨some 66, .iarr 1 2 (.tmp 65) (.tmp 55), none⟩, ⟨none, .store 1 (.tmp 66) (.tmp 64), none⟩]) (.seq (.ops [⟨some 67, .load 6 true (.tmp 3), none⟩, ⟨none, .store 6 (.tmp 6) (.tmp 67), none⟩, ⟨some 7, .mov (.const (.bool true)), none⟩]) .ret))))))
@[reducible] def rv11 : List RV := [.cell 6 6 true, .tmp 7]
theorem low11 : lowC Try.prog tau Try.f11.ntmps (Try.f11.body.getD .skip) = some (erase ic11) := by kernel_rfl
theorem res11 : lowR Try.prog Try.f11.results.toList = some rv11 := by kernel_rfl
theorem bod11 : Try.f11.body = some (Try.f11.body.getD .skip) := by kernel_rfl
theorem cal11 : callable Try.prog 11 = true := by kernel_rfl

end Go.Proofs.YtfgefmkcmkihhaaE

/-! Leave. -/
namespace Go.Proofs.YtfgefmkcmkihhaaE
open Go Go.RowKit
set_option linter.unusedSimpArgs false
set_option linter.unusedVariables false
set_option maxRecDepth 20000

def Tr.c (t : Tr) (s : Int) : List Int := if s = 0 then t.c0 else t.c1
def Tr.q (t : Tr) (s : Int) : List Note := if s = 0 then t.q0 else t.q1
def Tr.setC (t : Tr) (s : Int) (c : List Int) : Tr := if s = 0 then { t with c0 := c } else { t with c1 := c }
def Tr.setQ (t : Tr) (s : Int) (q : List Note) : Tr := if s = 0 then { t with q0 := q } else { t with q1 := q }
def put (t : Tr) (to kind circuit : Int) : Option Tr := if ((t.q to).length : Int) = 60 then none else some (t.setQ to (t.q to ++ [⟨kind, circuit⟩]))
def trA (t : Tr) : AVal := .agg [.sub 0 1 0 t.c0.length, .sub 1 1 0 t.c1.length, .v (.int .i64 t.x), .v (.int .i64 t.y), .sub 2 2 0 t.q0.length, .sub 3 2 0 t.q1.length]
def trL (t : Tr) : Hp := [(0, .row .int t.c0), (1, .row .int t.c1), (2, .row .note t.q0), (3, .row .note t.q1)]
theorem trA_eq {a b : List Int} {x y : Int} {c d : List Note} : trA ⟨a, b, x, y, c, d⟩ = .agg [.sub 0 1 0 a.length, .sub 1 1 0 b.length, .v (.int .i64 x), .v (.int .i64 y), .sub 2 2 0 c.length, .sub 3 2 0 d.length] := id rfl
theorem trL_eq {a b : List Int} {x y : Int} {c d : List Note} : trL ⟨a, b, x, y, c, d⟩ = [(0, .row .int a), (1, .row .int b), (2, .row .note c), (3, .row .note d)] := id rfl
theorem setC_0 {a b c : List Int} {x y : Int} {q r : List Note} : Tr.setC ⟨a, b, x, y, q, r⟩ 0 c = ⟨c, b, x, y, q, r⟩ := id rfl
theorem setC_1 {a b c : List Int} {x y : Int} {q r : List Note} : Tr.setC ⟨a, b, x, y, q, r⟩ 1 c = ⟨a, c, x, y, q, r⟩ := id rfl
theorem setQ_0 {a b : List Int} {x y : Int} {q r p : List Note} : Tr.setQ ⟨a, b, x, y, q, r⟩ 0 p = ⟨a, b, x, y, p, r⟩ := id rfl
theorem setQ_1 {a b : List Int} {x y : Int} {q r p : List Note} : Tr.setQ ⟨a, b, x, y, q, r⟩ 1 p = ⟨a, b, x, y, q, p⟩ := id rfl
theorem q_0 {a b : List Int} {x y : Int} {q r : List Note} : Tr.q ⟨a, b, x, y, q, r⟩ 0 = q := id rfl
theorem q_1 {a b : List Int} {x y : Int} {q r : List Note} : Tr.q ⟨a, b, x, y, q, r⟩ 1 = r := id rfl
theorem c_0 {a b : List Int} {x y : Int} {q r : List Note} : Tr.c ⟨a, b, x, y, q, r⟩ 0 = a := id rfl
theorem c_1 {a b : List Int} {x y : Int} {q r : List Note} : Tr.c ⟨a, b, x, y, q, r⟩ 1 = b := id rfl
theorem side_cases (s : Int) : ((0 ≤ s ∧ s ≤ 1) = False) ∨ s = 0 ∨ s = 1 := by
  by_cases h : 0 ≤ s ∧ s ≤ 1
  · right; omega
  · left; exact eq_false h
theorem trOk_head {t : Tr} (h : trOk t = true) : t.c0.length = t.c1.length ∧ 1 ≤ t.c0.length ∧ t.c0.length ≤ 24 := by
  simp only [trOk, headOk, Bool.and_eq_true, decide_eq_true_eq] at h
  omega
theorem trOk_q {t : Tr} (h : trOk t = true) : t.q0.length ≤ 60 ∧ t.q1.length ≤ 60 := by
  simp only [trOk, sideOk, restOk, Bool.and_eq_true, decide_eq_true_eq] at h
  omega
def leaveOk (t : Tr) (side circuit : Int) : Prop := trOk t = true ∧ (0 ≤ side ∧ side ≤ 1) ∧ (0 ≤ circuit ∧ circuit ≤ (t.c0.length : Int) - 1) ∧ (t.c side).getD circuit.toNat 0 = 2 ∧ ¬ ((t.q (1 - side)).length : Int) = 60
open Classical in
noncomputable def leave (t : Tr) (side circuit : Int) : Tr × Bool :=
  if leaveOk t side circuit then ((t.setC side ((t.c side).set circuit.toNat 4)).setQ (1 - side) (t.q (1 - side) ++ [⟨4, circuit⟩]), true) else (t, false)
theorem leave_no {t : Tr} {s c : Int} (h : ¬ leaveOk t s c) : leave t s c = (t, false) := if_neg h
theorem leave_yes {t : Tr} {s c : Int} (h : leaveOk t s c) : leave t s c = ((t.setC s ((t.c s).set c.toNat 4)).setQ (1 - s) (t.q (1 - s) ++ [⟨4, c⟩]), true) := if_pos h
def spLeave : Spec := ⟨fun _ => [], fun args objs K => match args, objs with
  | [.agg [.rs .int c0, .rs .int c1, .v (.int .i64 x), .v (.int .i64 y), .rs .note q0, .rs .note q1], .v (.int .i64 side), .v (.int .i64 circuit)], [] => (c0.length ≤ 1099511627776 ∧ c1.length ≤ 1099511627776 ∧ q0.length ≤ 1099511627776 ∧ q1.length ≤ 1099511627776) ∧
      K (.tup [trA (leave ⟨c0, c1, x, y, q0, q1⟩ side circuit).1, .v (.bool (leave ⟨c0, c1, x, y, q0, q1⟩ side circuit).2)]) (trL (leave ⟨c0, c1, x, y, q0, q1⟩ side circuit).1) 4
  | _, _ => False⟩
theorem spLeave_t {a : List AVal} : spLeave.take a = [] := id rfl
theorem spLeave_f {c0} {c1} {x} {y} {q0} {q1} {side} {circuit} {K : AVal → Hp → Nat → Prop} : Spec.f spLeave ([.agg [.rs .int c0, .rs .int c1, .v (.int .i64 x), .v (.int .i64 y), .rs .note q0, .rs .note q1], .v (.int .i64 side), .v (.int .i64 circuit)]) ([]) K = ((c0.length ≤ 1099511627776 ∧ c1.length ≤ 1099511627776 ∧ q0.length ≤ 1099511627776 ∧ q1.length ≤ 1099511627776) ∧
      K (.tup [trA (leave ⟨c0, c1, x, y, q0, q1⟩ side circuit).1, .v (.bool (leave ⟨c0, c1, x, y, q0, q1⟩ side circuit).2)]) (trL (leave ⟨c0, c1, x, y, q0, q1⟩ side circuit).1) 4) := id rfl
theorem valid11 : Valid Try.prog 11 spLeave := by
  refine validI (Γ := lk [(35, spToTr), (36, spTrOk), (37, spIn)]) Try.func11 bod11 low11 res11 (good_of ⟨⟨cal35, valid35⟩, ⟨cal36, valid36⟩, ⟨cal37, valid37⟩, trivial⟩) ?_
  intro E args objs K h hE hG hP
  simp only [spLeave] at h
  split at h
  · refine ⟨by simp [Try.ntmps11], ?_⟩
    rename_i c0 c1 x y q0 q1 side circuit
    obtain ⟨⟨b1, b2, b3, b4⟩, h⟩ := h
    rcases side_cases side with hs | hs | hs
    · simp only [go_sem, hG, hP, Nat.reduceEqDiff, ↓reduceIte, reduceCtorEq, Nat.reduceAdd, Nat.reduceSub, Nat.reduceMul, Nat.reduceLT, Nat.reduceLeDiff, Int.reduceAdd, Int.reduceSub, Int.reduceMul, Int.reduceLT, Int.reduceLE, Int.reduceEq, Int.reduceNeg, Int.reduceNe, Int.reduceGE, Int.reduceGT, Nat.reduceBEq, Int.reduceToNat,  spToTr_f, spToTr_t, spTrOk_f, spTrOk_t, spIn_f, spIn_t, hs]
      repeat (refine And.intro (by first | omega | (simp; done) | (simp; omega) | (unfold appRoom; omega)) ?_)
      have no : ¬ leaveOk ⟨c0, c1, x, y, q0, q1⟩ side circuit := fun e => by have := e.2.1; rw [hs] at this; exact this
      rw [leave_no no] at h
      refine ⟨fun hT => ⟨_, _, _, ?_, h⟩, fun hT => ⟨_, _, _, ?_, h⟩⟩
      · simp only [trA_eq, trL_eq]
        simp only [go_sem, hG, hP, Nat.reduceEqDiff, ↓reduceIte, reduceCtorEq, Nat.reduceAdd, Nat.reduceSub, Nat.reduceMul, Nat.reduceLT, Nat.reduceLeDiff, Int.reduceAdd, Int.reduceSub, Int.reduceMul, Int.reduceLT, Int.reduceLE, Int.reduceEq, Int.reduceNeg, Int.reduceNe, Int.reduceGE, Int.reduceGT, Nat.reduceBEq, Int.reduceToNat]
        all_goals simp
      · simp only [trA_eq, trL_eq]
        simp only [go_sem, hG, hP, Nat.reduceEqDiff, ↓reduceIte, reduceCtorEq, Nat.reduceAdd, Nat.reduceSub, Nat.reduceMul, Nat.reduceLT, Nat.reduceLeDiff, Int.reduceAdd, Int.reduceSub, Int.reduceMul, Int.reduceLT, Int.reduceLE, Int.reduceEq, Int.reduceNeg, Int.reduceNe, Int.reduceGE, Int.reduceGT, Nat.reduceBEq, Int.reduceToNat]
        all_goals simp
    · subst hs
      simp only [go_sem, hG, hP, Nat.reduceEqDiff, ↓reduceIte, reduceCtorEq, Nat.reduceAdd, Nat.reduceSub, Nat.reduceMul, Nat.reduceLT, Nat.reduceLeDiff, Int.reduceAdd, Int.reduceSub, Int.reduceMul, Int.reduceLT, Int.reduceLE, Int.reduceEq, Int.reduceNeg, Int.reduceNe, Int.reduceGE, Int.reduceGT, Nat.reduceBEq, Int.reduceToNat,  spToTr_f, spToTr_t, spTrOk_f, spTrOk_t, spIn_f, spIn_t]
      (try simp (disch := omega) only [wrap_id])
      repeat (refine And.intro (by first | omega | (simp; done) | (simp; omega) | (unfold appRoom; omega)) ?_)
      refine ⟨fun hT => ⟨fun hc => ?_, fun hc => ?_⟩, fun hT => ?_⟩
      · have hL : c0.length = c1.length ∧ 1 ≤ c0.length ∧ c0.length ≤ 24 := trOk_head hT
        repeat (refine And.intro (by first | omega | (simp; done) | (simp; omega) | (unfold appRoom; omega)) ?_)
        refine ⟨fun hn => ⟨fun hq => ?_, fun hq => ?_⟩, fun hn => ?_⟩
        · rw [leave_no (t := ⟨c0, c1, x, y, q0, q1⟩) (s := 0) (c := circuit) (fun e => e.2.2.2.2 hq)] at h
          refine ⟨_, _, _, ?_, h⟩
          simp only [trA_eq, trL_eq]
          simp only [go_sem, hG, hP, Nat.reduceEqDiff, ↓reduceIte, reduceCtorEq, Nat.reduceAdd, Nat.reduceSub, Nat.reduceMul, Nat.reduceLT, Nat.reduceLeDiff, Int.reduceAdd, Int.reduceSub, Int.reduceMul, Int.reduceLT, Int.reduceLE, Int.reduceEq, Int.reduceNeg, Int.reduceNe, Int.reduceGE, Int.reduceGT, Nat.reduceBEq, Int.reduceToNat]
          all_goals simp
        · repeat (refine And.intro (by first | omega | (simp; done) | (simp; omega) | (unfold appRoom; omega)) ?_)
          rw [leave_yes (t := ⟨c0, c1, x, y, q0, q1⟩) (s := 0) (c := circuit) ⟨hT, by omega, hc, Decidable.not_not.1 hn, hq⟩] at h
          refine ⟨_, _, _, ?_, h⟩
          simp only [c_0, show (1 : Int) - 0 = 1 from rfl, q_1, setC_0, setQ_1, trA_eq, trL_eq]
          simp only [go_sem, hG, hP, Nat.reduceEqDiff, ↓reduceIte, reduceCtorEq, Nat.reduceAdd, Nat.reduceSub, Nat.reduceMul, Nat.reduceLT, Nat.reduceLeDiff, Int.reduceAdd, Int.reduceSub, Int.reduceMul, Int.reduceLT, Int.reduceLE, Int.reduceEq, Int.reduceNeg, Int.reduceNe, Int.reduceGE, Int.reduceGT, Nat.reduceBEq, Int.reduceToNat]
          all_goals simp
        · rw [leave_no (t := ⟨c0, c1, x, y, q0, q1⟩) (s := 0) (c := circuit) (fun e => hn e.2.2.2.1)] at h
          refine ⟨_, _, _, ?_, h⟩
          simp only [trA_eq, trL_eq]
          simp only [go_sem, hG, hP, Nat.reduceEqDiff, ↓reduceIte, reduceCtorEq, Nat.reduceAdd, Nat.reduceSub, Nat.reduceMul, Nat.reduceLT, Nat.reduceLeDiff, Int.reduceAdd, Int.reduceSub, Int.reduceMul, Int.reduceLT, Int.reduceLE, Int.reduceEq, Int.reduceNeg, Int.reduceNe, Int.reduceGE, Int.reduceGT, Nat.reduceBEq, Int.reduceToNat]
          all_goals simp
      · rw [leave_no (t := ⟨c0, c1, x, y, q0, q1⟩) (s := 0) (c := circuit) (fun e => hc e.2.2.1)] at h
        refine ⟨_, _, _, ?_, h⟩
        simp only [trA_eq, trL_eq]
        simp only [go_sem, hG, hP, Nat.reduceEqDiff, ↓reduceIte, reduceCtorEq, Nat.reduceAdd, Nat.reduceSub, Nat.reduceMul, Nat.reduceLT, Nat.reduceLeDiff, Int.reduceAdd, Int.reduceSub, Int.reduceMul, Int.reduceLT, Int.reduceLE, Int.reduceEq, Int.reduceNeg, Int.reduceNe, Int.reduceGE, Int.reduceGT, Nat.reduceBEq, Int.reduceToNat]
        all_goals simp
      · rw [leave_no (t := ⟨c0, c1, x, y, q0, q1⟩) (s := 0) (c := circuit) (fun e => by rw [e.1] at hT; cases hT)] at h
        refine ⟨_, _, _, ?_, h⟩
        simp only [trA_eq, trL_eq]
        simp only [go_sem, hG, hP, Nat.reduceEqDiff, ↓reduceIte, reduceCtorEq, Nat.reduceAdd, Nat.reduceSub, Nat.reduceMul, Nat.reduceLT, Nat.reduceLeDiff, Int.reduceAdd, Int.reduceSub, Int.reduceMul, Int.reduceLT, Int.reduceLE, Int.reduceEq, Int.reduceNeg, Int.reduceNe, Int.reduceGE, Int.reduceGT, Nat.reduceBEq, Int.reduceToNat]
        all_goals simp
    · subst hs
      simp only [go_sem, hG, hP, Nat.reduceEqDiff, ↓reduceIte, reduceCtorEq, Nat.reduceAdd, Nat.reduceSub, Nat.reduceMul, Nat.reduceLT, Nat.reduceLeDiff, Int.reduceAdd, Int.reduceSub, Int.reduceMul, Int.reduceLT, Int.reduceLE, Int.reduceEq, Int.reduceNeg, Int.reduceNe, Int.reduceGE, Int.reduceGT, Nat.reduceBEq, Int.reduceToNat,  spToTr_f, spToTr_t, spTrOk_f, spTrOk_t, spIn_f, spIn_t]
      (try simp (disch := omega) only [wrap_id])
      repeat (refine And.intro (by first | omega | (simp; done) | (simp; omega) | (unfold appRoom; omega)) ?_)
      refine ⟨fun hT => ⟨fun hc => ?_, fun hc => ?_⟩, fun hT => ?_⟩
      · have hL : c0.length = c1.length ∧ 1 ≤ c0.length ∧ c0.length ≤ 24 := trOk_head hT
        repeat (refine And.intro (by first | omega | (simp; done) | (simp; omega) | (unfold appRoom; omega)) ?_)
        refine ⟨fun hn => ⟨fun hq => ?_, fun hq => ?_⟩, fun hn => ?_⟩
        · rw [leave_no (t := ⟨c0, c1, x, y, q0, q1⟩) (s := 1) (c := circuit) (fun e => e.2.2.2.2 hq)] at h
          refine ⟨_, _, _, ?_, h⟩
          simp only [trA_eq, trL_eq]
          simp only [go_sem, hG, hP, Nat.reduceEqDiff, ↓reduceIte, reduceCtorEq, Nat.reduceAdd, Nat.reduceSub, Nat.reduceMul, Nat.reduceLT, Nat.reduceLeDiff, Int.reduceAdd, Int.reduceSub, Int.reduceMul, Int.reduceLT, Int.reduceLE, Int.reduceEq, Int.reduceNeg, Int.reduceNe, Int.reduceGE, Int.reduceGT, Nat.reduceBEq, Int.reduceToNat]
          all_goals simp
        · repeat (refine And.intro (by first | omega | (simp; done) | (simp; omega) | (unfold appRoom; omega)) ?_)
          rw [leave_yes (t := ⟨c0, c1, x, y, q0, q1⟩) (s := 1) (c := circuit) ⟨hT, by omega, hc, Decidable.not_not.1 hn, hq⟩] at h
          refine ⟨_, _, _, ?_, h⟩
          simp only [c_1, show (1 : Int) - 1 = 0 from rfl, q_0, setC_1, setQ_0, trA_eq, trL_eq]
          simp only [go_sem, hG, hP, Nat.reduceEqDiff, ↓reduceIte, reduceCtorEq, Nat.reduceAdd, Nat.reduceSub, Nat.reduceMul, Nat.reduceLT, Nat.reduceLeDiff, Int.reduceAdd, Int.reduceSub, Int.reduceMul, Int.reduceLT, Int.reduceLE, Int.reduceEq, Int.reduceNeg, Int.reduceNe, Int.reduceGE, Int.reduceGT, Nat.reduceBEq, Int.reduceToNat]
          all_goals simp
        · rw [leave_no (t := ⟨c0, c1, x, y, q0, q1⟩) (s := 1) (c := circuit) (fun e => hn e.2.2.2.1)] at h
          refine ⟨_, _, _, ?_, h⟩
          simp only [trA_eq, trL_eq]
          simp only [go_sem, hG, hP, Nat.reduceEqDiff, ↓reduceIte, reduceCtorEq, Nat.reduceAdd, Nat.reduceSub, Nat.reduceMul, Nat.reduceLT, Nat.reduceLeDiff, Int.reduceAdd, Int.reduceSub, Int.reduceMul, Int.reduceLT, Int.reduceLE, Int.reduceEq, Int.reduceNeg, Int.reduceNe, Int.reduceGE, Int.reduceGT, Nat.reduceBEq, Int.reduceToNat]
          all_goals simp
      · rw [leave_no (t := ⟨c0, c1, x, y, q0, q1⟩) (s := 1) (c := circuit) (fun e => hc e.2.2.1)] at h
        refine ⟨_, _, _, ?_, h⟩
        simp only [trA_eq, trL_eq]
        simp only [go_sem, hG, hP, Nat.reduceEqDiff, ↓reduceIte, reduceCtorEq, Nat.reduceAdd, Nat.reduceSub, Nat.reduceMul, Nat.reduceLT, Nat.reduceLeDiff, Int.reduceAdd, Int.reduceSub, Int.reduceMul, Int.reduceLT, Int.reduceLE, Int.reduceEq, Int.reduceNeg, Int.reduceNe, Int.reduceGE, Int.reduceGT, Nat.reduceBEq, Int.reduceToNat]
        all_goals simp
      · rw [leave_no (t := ⟨c0, c1, x, y, q0, q1⟩) (s := 1) (c := circuit) (fun e => by rw [e.1] at hT; cases hT)] at h
        refine ⟨_, _, _, ?_, h⟩
        simp only [trA_eq, trL_eq]
        simp only [go_sem, hG, hP, Nat.reduceEqDiff, ↓reduceIte, reduceCtorEq, Nat.reduceAdd, Nat.reduceSub, Nat.reduceMul, Nat.reduceLT, Nat.reduceLeDiff, Int.reduceAdd, Int.reduceSub, Int.reduceMul, Int.reduceLT, Int.reduceLE, Int.reduceEq, Int.reduceNeg, Int.reduceNe, Int.reduceGE, Int.reduceGT, Nat.reduceBEq, Int.reduceToNat]
        all_goals simp
  · exact h.elim
end Go.Proofs.YtfgefmkcmkihhaaE

/-! The code of a function, in the engine's words. -/
namespace Go.Proofs.YtfgefmkcmkihhaaE
open Go Go.RowKit
@[reducible] def ic31 : IC := (.seq (.ops [⟨some 4, .box (.tmp 0), none⟩, ⟨some 8, .new [(.slice none 0 0), (.slice none 0 0), (.int .i64 0), (.int .i64 0), (.slice none 0 0), (.slice none 0 0)], none⟩, ⟨some 9, .mov (.const (.bool false)), none⟩]) (.seq (.seq (.ops [⟨some 10, .mov (.tmp 1), none⟩, ⟨some 11, .fadr 4 (.tmp 4), none⟩, ⟨some 12, .iarr 1 2 (.tmp 11) (.tmp 10), none⟩, ⟨some 13, .load 1 false (.tmp 12), none⟩, ⟨some 14, .len (.tmp 13), none⟩, ⟨some 15, .bin .eql (.tmp 14) (.const (.int .i64 60)), none⟩]) (.cond (.tmp 15) (.seq (.ops [⟨some 16, .load 6 true (.tmp 4), none⟩, ⟨none, .store 6 (.tmp 8) (.tmp 16), none⟩, ⟨some 9, .mov (.const (.bool false)), none⟩]) .ret) .skip)) (.seq (.ops [⟨some 17, .mov (.tmp 1), none⟩, ⟨some 18, .mov (.tmp 1), none⟩, ⟨some 19, .fadr 4 (.tmp 4), none⟩, ⟨some 20, .iarr 1 2 (.tmp 19) (.tmp 18), none⟩, ⟨some 21, .load 1 false (.tmp 20), none⟩, ⟨some 22, .mov (.tmp 2), none⟩, ⟨some 23, .mov (.tmp 3), none⟩, ⟨some 24, .bld [(.int .i64 0), (.int .i64 0)] [(0, 1, (.tmp 22)), (1, 1, (.tmp 23))], none⟩, ⟨some 25, .blds .note 1 [(0, 2, (.tmp 24))], none⟩, ⟨some 26, .app .note 16 (.tmp 21) (.tmp 25), none⟩, ⟨some 27, .fadr 4 (.tmp 4), none⟩, ⟨some 28, .iarr 1 2 (.tmp 27) (.tmp 17), none⟩, ⟨none, .store 1 (.tmp 28) (.tmp 26), none⟩]) (.seq (.ops [⟨some 29, .load 6 true (.tmp 4), none⟩, ⟨none, .store 6 (.tmp 8) (.tmp 29), none⟩, ⟨some 9, .mov (.const (.bool true)), none⟩]) .ret))))
@[reducible] def rv31 : List RV := [.cell 8 6 true, .tmp 9]
theorem low31 : lowC Try.prog tau Try.f31.ntmps (Try.f31.body.getD .skip) = some (erase ic31) := by kernel_rfl
theorem res31 : lowR Try.prog Try.f31.results.toList = some rv31 := by kernel_rfl
theorem bod31 : Try.f31.body = some (Try.f31.body.getD .skip) := by kernel_rfl
theorem cal31 : callable Try.prog 31 = true := by kernel_rfl

end Go.Proofs.YtfgefmkcmkihhaaE

/-! A note that is put on its way, and Leave of the reference. -/
namespace Go.Proofs.YtfgefmkcmkihhaaE
open Go Go.RowKit
set_option linter.unusedSimpArgs false
set_option linter.unusedVariables false
set_option maxRecDepth 20000

def spPut : Spec := ⟨takeA6, fun args objs K => match args, objs with
  | [.agg [.sub 0 1 0 n0, .sub 1 1 0 n1, .v (.int .i64 x), .v (.int .i64 y), .sub 2 2 l2 n2, .sub 3 2 l3 n3], .v (.int .i64 to), .v (.int .i64 kind), .v (.int .i64 circuit)], [.row .int c0, .row .int c1, .row .note q0, .row .note q1] =>
      (n0 = c0.length ∧ n1 = c1.length ∧ l2 + n2 = q0.length ∧ l3 + n3 = q1.length ∧ c0.length ≤ 1099511627776 ∧ c1.length ≤ 1099511627776 ∧ q0.length ≤ 1099511627776 ∧ q1.length ≤ 1099511627776 ∧ (to = 0 ∨ to = 1)) ∧
      impK (to = 0) (impK (n2 = 60) (K (.tup [.agg [.sub 0 1 0 c0.length, .sub 1 1 0 c1.length, .v (.int .i64 x), .v (.int .i64 y), .sub 2 2 l2 n2, .sub 3 2 l3 n3], .v (.bool false)]) [(0, .row .int c0), (1, .row .int c1), (2, .row .note q0), (3, .row .note q1)] 4) ∧
        impK (¬ n2 = 60) (K (.tup [.agg [.sub 0 1 0 c0.length, .sub 1 1 0 c1.length, .v (.int .i64 x), .v (.int .i64 y), .sub 4 2 0 (n2 + 1), .sub 3 2 l3 n3], .v (.bool true)]) [(0, .row .int c0), (1, .row .int c1), (3, .row .note q1), (4, .row .note (q0.drop l2 ++ [⟨kind, circuit⟩]))] 5)) ∧
      impK (to = 1) (impK (n3 = 60) (K (.tup [.agg [.sub 0 1 0 c0.length, .sub 1 1 0 c1.length, .v (.int .i64 x), .v (.int .i64 y), .sub 2 2 l2 n2, .sub 3 2 l3 n3], .v (.bool false)]) [(0, .row .int c0), (1, .row .int c1), (2, .row .note q0), (3, .row .note q1)] 4) ∧
        impK (¬ n3 = 60) (K (.tup [.agg [.sub 0 1 0 c0.length, .sub 1 1 0 c1.length, .v (.int .i64 x), .v (.int .i64 y), .sub 2 2 l2 n2, .sub 4 2 0 (n3 + 1)], .v (.bool true)]) [(0, .row .int c0), (1, .row .int c1), (2, .row .note q0), (4, .row .note (q1.drop l3 ++ [⟨kind, circuit⟩]))] 5))
  | _, _ => False⟩
theorem spPut_t {a : List AVal} : spPut.take a = takeA6 a := id rfl
theorem spPut_f {n0} {n1} {x} {y} {l2} {n2} {l3} {n3} {to} {kind} {circuit} {c0} {c1} {q0} {q1} {K : AVal → Hp → Nat → Prop} : Spec.f spPut ([.agg [.sub 0 1 0 n0, .sub 1 1 0 n1, .v (.int .i64 x), .v (.int .i64 y), .sub 2 2 l2 n2, .sub 3 2 l3 n3], .v (.int .i64 to), .v (.int .i64 kind), .v (.int .i64 circuit)]) ([.row .int c0, .row .int c1, .row .note q0, .row .note q1]) K = ((n0 = c0.length ∧ n1 = c1.length ∧ l2 + n2 = q0.length ∧ l3 + n3 = q1.length ∧ c0.length ≤ 1099511627776 ∧ c1.length ≤ 1099511627776 ∧ q0.length ≤ 1099511627776 ∧ q1.length ≤ 1099511627776 ∧ (to = 0 ∨ to = 1)) ∧
      impK (to = 0) (impK (n2 = 60) (K (.tup [.agg [.sub 0 1 0 c0.length, .sub 1 1 0 c1.length, .v (.int .i64 x), .v (.int .i64 y), .sub 2 2 l2 n2, .sub 3 2 l3 n3], .v (.bool false)]) [(0, .row .int c0), (1, .row .int c1), (2, .row .note q0), (3, .row .note q1)] 4) ∧
        impK (¬ n2 = 60) (K (.tup [.agg [.sub 0 1 0 c0.length, .sub 1 1 0 c1.length, .v (.int .i64 x), .v (.int .i64 y), .sub 4 2 0 (n2 + 1), .sub 3 2 l3 n3], .v (.bool true)]) [(0, .row .int c0), (1, .row .int c1), (3, .row .note q1), (4, .row .note (q0.drop l2 ++ [⟨kind, circuit⟩]))] 5)) ∧
      impK (to = 1) (impK (n3 = 60) (K (.tup [.agg [.sub 0 1 0 c0.length, .sub 1 1 0 c1.length, .v (.int .i64 x), .v (.int .i64 y), .sub 2 2 l2 n2, .sub 3 2 l3 n3], .v (.bool false)]) [(0, .row .int c0), (1, .row .int c1), (2, .row .note q0), (3, .row .note q1)] 4) ∧
        impK (¬ n3 = 60) (K (.tup [.agg [.sub 0 1 0 c0.length, .sub 1 1 0 c1.length, .v (.int .i64 x), .v (.int .i64 y), .sub 2 2 l2 n2, .sub 4 2 0 (n3 + 1)], .v (.bool true)]) [(0, .row .int c0), (1, .row .int c1), (2, .row .note q0), (4, .row .note (q1.drop l3 ++ [⟨kind, circuit⟩]))] 5))) := id rfl
theorem valid31 : Valid Try.prog 31 spPut := by
  refine validI (Γ := lk []) Try.func31 bod31 low31 res31 (good_of trivial) ?_
  intro E args objs K h hE hG hP
  simp only [spPut] at h
  split at h
  · refine ⟨by simp [Try.ntmps31], ?_⟩
    rename_i n0 n1 x y l2 n2 l3 n3 to kind circuit c0 c1 q0 q1
    obtain ⟨⟨rfl, rfl, h2, h3, b1, b2, b3, b4, hs⟩, h⟩ := h
    have e2 : (q0.drop l2).take n2 = q0.drop l2 := List.take_of_length_le (by rw [List.length_drop]; omega)
    have e3 : (q1.drop l3).take n3 = q1.drop l3 := List.take_of_length_le (by rw [List.length_drop]; omega)
    rcases hs with hs | hs
    · subst hs
      have h := h.1 rfl
      simp only [go_sem, hG, hP, Nat.reduceEqDiff, ↓reduceIte, reduceCtorEq, Nat.reduceAdd, Nat.reduceSub, Nat.reduceMul, Nat.reduceLT, Nat.reduceLeDiff, Int.reduceAdd, Int.reduceSub, Int.reduceMul, Int.reduceLT, Int.reduceLE, Int.reduceEq, Int.reduceNeg, Int.reduceNe, Int.reduceGE, Int.reduceGT, Nat.reduceBEq, Int.reduceToNat,  e2, e3]
      repeat (refine And.intro (by first | omega | (simp; done) | (simp; omega) | (unfold appRoom; omega)) ?_)
      refine ⟨fun hq => ⟨_, _, _, ?_, h.1 (by omega)⟩, fun hq => ?_⟩
      · simp only [go_sem, hG, hP, Nat.reduceEqDiff, ↓reduceIte, reduceCtorEq, Nat.reduceAdd, Nat.reduceSub, Nat.reduceMul, Nat.reduceLT, Nat.reduceLeDiff, Int.reduceAdd, Int.reduceSub, Int.reduceMul, Int.reduceLT, Int.reduceLE, Int.reduceEq, Int.reduceNeg, Int.reduceNe, Int.reduceGE, Int.reduceGT, Nat.reduceBEq, Int.reduceToNat]
        all_goals simp
      · repeat (refine And.intro (by first | omega | (simp; done) | (simp; omega) | (unfold appRoom; omega)) ?_)
        refine ⟨_, _, _, ?_, h.2 (by omega)⟩
        simp only [go_sem, hG, hP, Nat.reduceEqDiff, ↓reduceIte, reduceCtorEq, Nat.reduceAdd, Nat.reduceSub, Nat.reduceMul, Nat.reduceLT, Nat.reduceLeDiff, Int.reduceAdd, Int.reduceSub, Int.reduceMul, Int.reduceLT, Int.reduceLE, Int.reduceEq, Int.reduceNeg, Int.reduceNe, Int.reduceGE, Int.reduceGT, Nat.reduceBEq, Int.reduceToNat]
        all_goals simp
    · subst hs
      have h := h.2 rfl
      simp only [go_sem, hG, hP, Nat.reduceEqDiff, ↓reduceIte, reduceCtorEq, Nat.reduceAdd, Nat.reduceSub, Nat.reduceMul, Nat.reduceLT, Nat.reduceLeDiff, Int.reduceAdd, Int.reduceSub, Int.reduceMul, Int.reduceLT, Int.reduceLE, Int.reduceEq, Int.reduceNeg, Int.reduceNe, Int.reduceGE, Int.reduceGT, Nat.reduceBEq, Int.reduceToNat,  e2, e3]
      repeat (refine And.intro (by first | omega | (simp; done) | (simp; omega) | (unfold appRoom; omega)) ?_)
      refine ⟨fun hq => ⟨_, _, _, ?_, h.1 (by omega)⟩, fun hq => ?_⟩
      · simp only [go_sem, hG, hP, Nat.reduceEqDiff, ↓reduceIte, reduceCtorEq, Nat.reduceAdd, Nat.reduceSub, Nat.reduceMul, Nat.reduceLT, Nat.reduceLeDiff, Int.reduceAdd, Int.reduceSub, Int.reduceMul, Int.reduceLT, Int.reduceLE, Int.reduceEq, Int.reduceNeg, Int.reduceNe, Int.reduceGE, Int.reduceGT, Nat.reduceBEq, Int.reduceToNat]
        all_goals simp
      · repeat (refine And.intro (by first | omega | (simp; done) | (simp; omega) | (unfold appRoom; omega)) ?_)
        refine ⟨_, _, _, ?_, h.2 (by omega)⟩
        simp only [go_sem, hG, hP, Nat.reduceEqDiff, ↓reduceIte, reduceCtorEq, Nat.reduceAdd, Nat.reduceSub, Nat.reduceMul, Nat.reduceLT, Nat.reduceLeDiff, Int.reduceAdd, Int.reduceSub, Int.reduceMul, Int.reduceLT, Int.reduceLE, Int.reduceEq, Int.reduceNeg, Int.reduceNe, Int.reduceGE, Int.reduceGT, Nat.reduceBEq, Int.reduceToNat]
        all_goals simp
  · exact h.elim
theorem valid9 : Valid Try.prog 9 spLeave := by
  refine validI (Γ := lk [(29, spToTr), (24, spTrOk), (30, spIn), (31, spPut)]) Try.func9 bod9 low9 res9 (good_of ⟨⟨cal29, valid29⟩, ⟨cal24, valid24⟩, ⟨cal30, valid30⟩, ⟨cal31, valid31⟩, trivial⟩) ?_
  intro E args objs K h hE hG hP
  simp only [spLeave] at h
  split at h
  · refine ⟨by simp [Try.ntmps9], ?_⟩
    rename_i c0 c1 x y q0 q1 side circuit
    obtain ⟨⟨b1, b2, b3, b4⟩, h⟩ := h
    rcases side_cases side with hs | hs | hs
    · simp only [go_sem, hG, hP, Nat.reduceEqDiff, ↓reduceIte, reduceCtorEq, Nat.reduceAdd, Nat.reduceSub, Nat.reduceMul, Nat.reduceLT, Nat.reduceLeDiff, Int.reduceAdd, Int.reduceSub, Int.reduceMul, Int.reduceLT, Int.reduceLE, Int.reduceEq, Int.reduceNeg, Int.reduceNe, Int.reduceGE, Int.reduceGT, Nat.reduceBEq, Int.reduceToNat,  spToTr_f, spToTr_t, spTrOk_f, spTrOk_t, spIn_f, spIn_t, spPut_f, spPut_t, takeA6_eq, hs]
      repeat (refine And.intro (by first | omega | (simp; done) | (simp; omega) | (unfold appRoom; omega)) ?_)
      have no : ¬ leaveOk ⟨c0, c1, x, y, q0, q1⟩ side circuit := fun e => by have := e.2.1; rw [hs] at this; exact this
      rw [leave_no no] at h
      refine ⟨fun hT => ⟨_, _, _, ?_, h⟩, fun hT => ⟨_, _, _, ?_, h⟩⟩
      · simp only [trA_eq, trL_eq]
        simp only [go_sem, hG, hP, Nat.reduceEqDiff, ↓reduceIte, reduceCtorEq, Nat.reduceAdd, Nat.reduceSub, Nat.reduceMul, Nat.reduceLT, Nat.reduceLeDiff, Int.reduceAdd, Int.reduceSub, Int.reduceMul, Int.reduceLT, Int.reduceLE, Int.reduceEq, Int.reduceNeg, Int.reduceNe, Int.reduceGE, Int.reduceGT, Nat.reduceBEq, Int.reduceToNat]
        all_goals simp
      · simp only [trA_eq, trL_eq]
        simp only [go_sem, hG, hP, Nat.reduceEqDiff, ↓reduceIte, reduceCtorEq, Nat.reduceAdd, Nat.reduceSub, Nat.reduceMul, Nat.reduceLT, Nat.reduceLeDiff, Int.reduceAdd, Int.reduceSub, Int.reduceMul, Int.reduceLT, Int.reduceLE, Int.reduceEq, Int.reduceNeg, Int.reduceNe, Int.reduceGE, Int.reduceGT, Nat.reduceBEq, Int.reduceToNat]
        all_goals simp
    · subst hs
      simp only [go_sem, hG, hP, Nat.reduceEqDiff, ↓reduceIte, reduceCtorEq, Nat.reduceAdd, Nat.reduceSub, Nat.reduceMul, Nat.reduceLT, Nat.reduceLeDiff, Int.reduceAdd, Int.reduceSub, Int.reduceMul, Int.reduceLT, Int.reduceLE, Int.reduceEq, Int.reduceNeg, Int.reduceNe, Int.reduceGE, Int.reduceGT, Nat.reduceBEq, Int.reduceToNat,  spToTr_f, spToTr_t, spTrOk_f, spTrOk_t, spIn_f, spIn_t, spPut_f, spPut_t, takeA6_eq]
      (try simp (disch := omega) only [wrap_id])
      repeat (refine And.intro (by first | omega | (simp; done) | (simp; omega) | (unfold appRoom; omega)) ?_)
      refine ⟨fun hT => ⟨fun hc => ?_, fun hc => ?_⟩, fun hT => ?_⟩
      · have hL : c0.length = c1.length ∧ 1 ≤ c0.length ∧ c0.length ≤ 24 := trOk_head hT
        repeat (refine And.intro (by first | omega | (simp; done) | (simp; omega) | (unfold appRoom; omega)) ?_)
        refine ⟨fun hn => ?_, fun hn => ?_⟩
        · rw [leave_no (t := ⟨c0, c1, x, y, q0, q1⟩) (s := 0) (c := circuit) (fun e => hn e.2.2.2.1)] at h
          refine ⟨_, _, _, ?_, h⟩
          simp only [trA_eq, trL_eq]
          simp only [go_sem, hG, hP, Nat.reduceEqDiff, ↓reduceIte, reduceCtorEq, Nat.reduceAdd, Nat.reduceSub, Nat.reduceMul, Nat.reduceLT, Nat.reduceLeDiff, Int.reduceAdd, Int.reduceSub, Int.reduceMul, Int.reduceLT, Int.reduceLE, Int.reduceEq, Int.reduceNeg, Int.reduceNe, Int.reduceGE, Int.reduceGT, Nat.reduceBEq, Int.reduceToNat]
          all_goals simp
        · repeat (refine And.intro (by first | omega | (simp; done) | (simp; omega) | (unfold appRoom; omega)) ?_)
          refine ⟨fun hq => ?_, fun hq => ?_⟩
          · rw [leave_no (t := ⟨c0, c1, x, y, q0, q1⟩) (s := 0) (c := circuit) (fun e => e.2.2.2.2 (congrArg (Nat.cast (R := Int)) hq))] at h
            refine ⟨_, _, _, ?_, h⟩
            simp only [trA_eq, trL_eq]
            simp only [go_sem, hG, hP, Nat.reduceEqDiff, ↓reduceIte, reduceCtorEq, Nat.reduceAdd, Nat.reduceSub, Nat.reduceMul, Nat.reduceLT, Nat.reduceLeDiff, Int.reduceAdd, Int.reduceSub, Int.reduceMul, Int.reduceLT, Int.reduceLE, Int.reduceEq, Int.reduceNeg, Int.reduceNe, Int.reduceGE, Int.reduceGT, Nat.reduceBEq, Int.reduceToNat]
            all_goals simp
          · repeat (refine And.intro (by first | omega | (simp; done) | (simp; omega) | (unfold appRoom; omega)) ?_)
            rw [leave_yes (t := ⟨c0, c1, x, y, q0, q1⟩) (s := 0) (c := circuit) ⟨hT, by omega, hc, Decidable.not_not.1 hn, fun e => hq (Int.ofNat.inj e)⟩] at h
            refine ⟨_, _, _, ?_, h⟩
            simp only [c_0, show (1 : Int) - 0 = 1 from rfl, q_1, setC_0, setQ_1, trA_eq, trL_eq]
            simp only [go_sem, hG, hP, Nat.reduceEqDiff, ↓reduceIte, reduceCtorEq, Nat.reduceAdd, Nat.reduceSub, Nat.reduceMul, Nat.reduceLT, Nat.reduceLeDiff, Int.reduceAdd, Int.reduceSub, Int.reduceMul, Int.reduceLT, Int.reduceLE, Int.reduceEq, Int.reduceNeg, Int.reduceNe, Int.reduceGE, Int.reduceGT, Nat.reduceBEq, Int.reduceToNat]
            all_goals simp
      · rw [leave_no (t := ⟨c0, c1, x, y, q0, q1⟩) (s := 0) (c := circuit) (fun e => hc e.2.2.1)] at h
        refine ⟨_, _, _, ?_, h⟩
        simp only [trA_eq, trL_eq]
        simp only [go_sem, hG, hP, Nat.reduceEqDiff, ↓reduceIte, reduceCtorEq, Nat.reduceAdd, Nat.reduceSub, Nat.reduceMul, Nat.reduceLT, Nat.reduceLeDiff, Int.reduceAdd, Int.reduceSub, Int.reduceMul, Int.reduceLT, Int.reduceLE, Int.reduceEq, Int.reduceNeg, Int.reduceNe, Int.reduceGE, Int.reduceGT, Nat.reduceBEq, Int.reduceToNat]
        all_goals simp
      · rw [leave_no (t := ⟨c0, c1, x, y, q0, q1⟩) (s := 0) (c := circuit) (fun e => by rw [e.1] at hT; cases hT)] at h
        refine ⟨_, _, _, ?_, h⟩
        simp only [trA_eq, trL_eq]
        simp only [go_sem, hG, hP, Nat.reduceEqDiff, ↓reduceIte, reduceCtorEq, Nat.reduceAdd, Nat.reduceSub, Nat.reduceMul, Nat.reduceLT, Nat.reduceLeDiff, Int.reduceAdd, Int.reduceSub, Int.reduceMul, Int.reduceLT, Int.reduceLE, Int.reduceEq, Int.reduceNeg, Int.reduceNe, Int.reduceGE, Int.reduceGT, Nat.reduceBEq, Int.reduceToNat]
        all_goals simp
    · subst hs
      simp only [go_sem, hG, hP, Nat.reduceEqDiff, ↓reduceIte, reduceCtorEq, Nat.reduceAdd, Nat.reduceSub, Nat.reduceMul, Nat.reduceLT, Nat.reduceLeDiff, Int.reduceAdd, Int.reduceSub, Int.reduceMul, Int.reduceLT, Int.reduceLE, Int.reduceEq, Int.reduceNeg, Int.reduceNe, Int.reduceGE, Int.reduceGT, Nat.reduceBEq, Int.reduceToNat,  spToTr_f, spToTr_t, spTrOk_f, spTrOk_t, spIn_f, spIn_t, spPut_f, spPut_t, takeA6_eq]
      (try simp (disch := omega) only [wrap_id])
      repeat (refine And.intro (by first | omega | (simp; done) | (simp; omega) | (unfold appRoom; omega)) ?_)
      refine ⟨fun hT => ⟨fun hc => ?_, fun hc => ?_⟩, fun hT => ?_⟩
      · have hL : c0.length = c1.length ∧ 1 ≤ c0.length ∧ c0.length ≤ 24 := trOk_head hT
        repeat (refine And.intro (by first | omega | (simp; done) | (simp; omega) | (unfold appRoom; omega)) ?_)
        refine ⟨fun hn => ?_, fun hn => ?_⟩
        · rw [leave_no (t := ⟨c0, c1, x, y, q0, q1⟩) (s := 1) (c := circuit) (fun e => hn e.2.2.2.1)] at h
          refine ⟨_, _, _, ?_, h⟩
          simp only [trA_eq, trL_eq]
          simp only [go_sem, hG, hP, Nat.reduceEqDiff, ↓reduceIte, reduceCtorEq, Nat.reduceAdd, Nat.reduceSub, Nat.reduceMul, Nat.reduceLT, Nat.reduceLeDiff, Int.reduceAdd, Int.reduceSub, Int.reduceMul, Int.reduceLT, Int.reduceLE, Int.reduceEq, Int.reduceNeg, Int.reduceNe, Int.reduceGE, Int.reduceGT, Nat.reduceBEq, Int.reduceToNat]
          all_goals simp
        · repeat (refine And.intro (by first | omega | (simp; done) | (simp; omega) | (unfold appRoom; omega)) ?_)
          refine ⟨fun hq => ?_, fun hq => ?_⟩
          · rw [leave_no (t := ⟨c0, c1, x, y, q0, q1⟩) (s := 1) (c := circuit) (fun e => e.2.2.2.2 (congrArg (Nat.cast (R := Int)) hq))] at h
            refine ⟨_, _, _, ?_, h⟩
            simp only [trA_eq, trL_eq]
            simp only [go_sem, hG, hP, Nat.reduceEqDiff, ↓reduceIte, reduceCtorEq, Nat.reduceAdd, Nat.reduceSub, Nat.reduceMul, Nat.reduceLT, Nat.reduceLeDiff, Int.reduceAdd, Int.reduceSub, Int.reduceMul, Int.reduceLT, Int.reduceLE, Int.reduceEq, Int.reduceNeg, Int.reduceNe, Int.reduceGE, Int.reduceGT, Nat.reduceBEq, Int.reduceToNat]
            all_goals simp
          · repeat (refine And.intro (by first | omega | (simp; done) | (simp; omega) | (unfold appRoom; omega)) ?_)
            rw [leave_yes (t := ⟨c0, c1, x, y, q0, q1⟩) (s := 1) (c := circuit) ⟨hT, by omega, hc, Decidable.not_not.1 hn, fun e => hq (Int.ofNat.inj e)⟩] at h
            refine ⟨_, _, _, ?_, h⟩
            simp only [c_1, show (1 : Int) - 1 = 0 from rfl, q_0, setC_1, setQ_0, trA_eq, trL_eq]
            simp only [go_sem, hG, hP, Nat.reduceEqDiff, ↓reduceIte, reduceCtorEq, Nat.reduceAdd, Nat.reduceSub, Nat.reduceMul, Nat.reduceLT, Nat.reduceLeDiff, Int.reduceAdd, Int.reduceSub, Int.reduceMul, Int.reduceLT, Int.reduceLE, Int.reduceEq, Int.reduceNeg, Int.reduceNe, Int.reduceGE, Int.reduceGT, Nat.reduceBEq, Int.reduceToNat]
            all_goals simp
      · rw [leave_no (t := ⟨c0, c1, x, y, q0, q1⟩) (s := 1) (c := circuit) (fun e => hc e.2.2.1)] at h
        refine ⟨_, _, _, ?_, h⟩
        simp only [trA_eq, trL_eq]
        simp only [go_sem, hG, hP, Nat.reduceEqDiff, ↓reduceIte, reduceCtorEq, Nat.reduceAdd, Nat.reduceSub, Nat.reduceMul, Nat.reduceLT, Nat.reduceLeDiff, Int.reduceAdd, Int.reduceSub, Int.reduceMul, Int.reduceLT, Int.reduceLE, Int.reduceEq, Int.reduceNeg, Int.reduceNe, Int.reduceGE, Int.reduceGT, Nat.reduceBEq, Int.reduceToNat]
        all_goals simp
      · rw [leave_no (t := ⟨c0, c1, x, y, q0, q1⟩) (s := 1) (c := circuit) (fun e => by rw [e.1] at hT; cases hT)] at h
        refine ⟨_, _, _, ?_, h⟩
        simp only [trA_eq, trL_eq]
        simp only [go_sem, hG, hP, Nat.reduceEqDiff, ↓reduceIte, reduceCtorEq, Nat.reduceAdd, Nat.reduceSub, Nat.reduceMul, Nat.reduceLT, Nat.reduceLeDiff, Int.reduceAdd, Int.reduceSub, Int.reduceMul, Int.reduceLT, Int.reduceLE, Int.reduceEq, Int.reduceNeg, Int.reduceNe, Int.reduceGE, Int.reduceGT, Nat.reduceBEq, Int.reduceToNat]
        all_goals simp
  · exact h.elim
end Go.Proofs.YtfgefmkcmkihhaaE

/-! The code of a function, in the engine's words. -/
namespace Go.Proofs.YtfgefmkcmkihhaaE
open Go Go.RowKit
@[reducible] def ic15 : IC := (.seq (.ops [⟨some 2, .box (.tmp 0), none⟩, ⟨some 4, .new [(.slice none 0 0), (.slice none 0 0), (.int .i64 0), (.int .i64 0), (.slice none 0 0), (.slice none 0 0)], none⟩, ⟨some 5, .mov (.const (.int .i64 0)), none⟩]) (.seq (.ops [⟨some 11, .load 6 true (.tmp 2), none⟩, ⟨some 12, .call 29 [(.tmp 11)], none⟩, ⟨none, .store 6 (.tmp 2) (.tmp 12), none⟩]) (.seq (.seq (.ops [⟨some 13, .load 6 true (.tmp 2), none⟩, ⟨some 14, .call 24 [(.tmp 13)], none⟩, ⟨some 15, .una .not (.tmp 14), none⟩, ⟨some 16, .mov (.tmp 15), none⟩, ⟨some 17, .mov (.tmp 1), some (16, false)⟩, ⟨some 18, .call 30 [(.tmp 17), (.const (.int .i64 0)), (.const (.int .i64 1))], some (16, false)⟩, ⟨some 19, .una .not (.tmp 18), some (16, false)⟩, ⟨some 20, .pick (.tmp 16) (.const (.bool true)) (.tmp 19), none⟩]) (.cond (.tmp 20) (.seq (.ops [⟨some 21, .load 6 true (.tmp 2), none⟩, ⟨none, .store 6 (.tmp 4) (.tmp 21), none⟩, ⟨some 5, .mov (.const (.int .i64 (-1))), none⟩]) .ret) .skip)) (.seq (.ops [⟨some 6, .mov (.const (.int .i64 (-1))), none⟩, ⟨some 7, .mov (.const (.int .i64 (-1))), none⟩]) (.seq (.seq (.ops [⟨some 8, .mov (.const (.int .i64 0)), none⟩]) (.block 0 (.loop (.seq (.seq (.ops [⟨some 22, .mov (.tmp 8), none⟩, ⟨some 23, .mov (.tmp 1), none⟩, ⟨some 24, .fadr 0 (.tmp 2), none⟩, ⟨some 25, .iarr 1 2 (.tmp 24) (.tmp 23), none⟩, ⟨some 26, .load 1 false (.tmp 25), none⟩, ⟨some 27, .len (.tmp 26), none⟩, ⟨some 28, .bin .lss (.tmp 22) (.tmp 27), none⟩]) (.cond (.tmp 28) .skip (.exit 0))) (.seq (.block 1 (.seq (.seq (.ops [⟨some 31, .mov (.tmp 1), none⟩, ⟨some 32, .fadr 0 (.tmp 2), none⟩, ⟨some 33, .iarr 1 2 (.tmp 32) (.tmp 31), none⟩, ⟨some 34, .load 1 false (.tmp 33), none⟩, ⟨some 35, .mov (.tmp 8), none⟩, ⟨some 36, .iadr 1 (.tmp 34) (.tmp 35), none⟩, ⟨some 37, .load 1 false (.tmp 36), none⟩, ⟨some 38, .bin .neq (.tmp 37) (.const (.int .i64 0)), none⟩]) (.cond (.tmp 38) (.exit 1) .skip)) (.seq (.seq (.ops [⟨some 39, .mov (.tmp 8), none⟩, ⟨some 40, .call 45 [(.tmp 39)], none⟩, ⟨some 41, .mov (.tmp 1), none⟩, ⟨some 42, .bin .eql (.tmp 40) (.tmp 41), none⟩, ⟨some 43, .mov (.tmp 42), none⟩, ⟨some 44, .mov (.tmp 6), some (43, true)⟩, ⟨some 45, .bin .lss (.tmp 44) (.const (.int .i64 0)), some (43, true)⟩, ⟨some 46, .pick (.tmp 43) (.tmp 45) (.const (.bool false)), none⟩]) (.cond (.tmp 46) (.ops [⟨some 47, .mov (.tmp 8), none⟩, ⟨some 6, .mov (.tmp 47), none⟩]) .skip)) (.seq (.ops [⟨some 48, .mov (.tmp 8), none⟩, ⟨some 49, .call 45 [(.tmp 48)], none⟩, ⟨some 50, .mov (.tmp 1), none⟩, ⟨some 51, .bin .neq (.tmp 49) (.tmp 50), none⟩]) (.cond (.tmp 51) (.ops [⟨some 52, .mov (.tmp 8), none⟩, ⟨some 7, .mov (.tmp 52), none⟩]) .skip))))) (.ops [⟨some 29, .mov (.tmp 8), none⟩, ⟨some 30, .bin .add (.tmp 29) (.const (.int .i64 1)), none⟩, ⟨some 8, .mov (.tmp 30), none⟩])))))) (.seq (.seq (.ops [⟨some 53, .mov (.tmp 6), none⟩, ⟨some 54, .bin .lss (.tmp 53) (.const (.int .i64 0)), none⟩]) (.cond (.tmp 54) (.ops [⟨some 55, .mov (.tmp 7), none⟩, ⟨some 6, .mov (.tmp 55), none⟩]) .skip)) (.seq (.seq (.ops [⟨some 56, .mov (.tmp 6), none⟩, ⟨some 57, .bin .lss (.tmp 56) (.const (.int .i64 0)), none⟩]) (.cond (.tmp 57) (.seq (.ops [⟨some 58, .load 6 true (.tmp 2), none⟩, ⟨none, .store 6 (.tmp 4) (.tmp 58), none⟩, ⟨some 5, .mov (.const (.int .i64 (-1))), none⟩]) .ret) .skip)) (.seq (.ops [⟨some 60, .load 6 true (.tmp 2), none⟩, ⟨some 61, .call 29 [(.tmp 60)], none⟩, ⟨some 62, .mov (.tmp 1), none⟩, ⟨some 63, .bin .sub (.const (.int .i64 1)) (.tmp 62), none⟩, ⟨some 64, .mov (.tmp 6), none⟩, ⟨some 65, .call 31 [(.tmp 61), (.tmp 63), (.const (.int .i64 1)), (.tmp 64)], none⟩, ⟨some 59, .mov (.tmp 65), none⟩, ⟨some 66, .ext (.tmp 59) 0, none⟩, ⟨some 67, .ext (.tmp 59) 1, none⟩, ⟨some 9, .new [(.slice none 0 0), (.slice none 0 0), (.int .i64 0), (.int .i64 0), (.slice none 0 0), (.slice none 0 0)], none⟩, ⟨none, .store 6 (.tmp 9) (.tmp 66), none⟩, ⟨some 10, .mov (.tmp 67), none⟩]) (.seq (.seq (.ops [⟨some 68, .mov (.tmp 10), none⟩, ⟨some 69, .una .not (.tmp 68), none⟩]) (.cond (.tmp 69) (.seq (.ops [⟨some 70, .load 6 true (.tmp 2), none⟩, ⟨none, .store 6 (.tmp 4) (.tmp 70), none⟩, ⟨some 5, .mov (.const (.int .i64 (-1))), none⟩]) .ret) .skip)) (.seq (.ops [⟨some 71, .mov (.tmp 1), none⟩, ⟨some 72, .fadr 0 (.tmp 9), none⟩, ⟨some 73, .iarr 1 2 (.tmp 72) (.tmp 71), none⟩, ⟨some 74, .load 1 false (.tmp 73), none⟩, ⟨some 75, .mov (.tmp 6), none⟩, ⟨some 76, .iadr 1 (.tmp 74) (.tmp 75), none⟩, ⟨none, .store 1 (.tmp 76) (.const (.int .i64 1)), none⟩]) (.seq (.ops [⟨some 77, .load 6 true (.tmp 9), none⟩, ⟨some 78, .mov (.tmp 6), none⟩, ⟨none, .store 6 (.tmp 4) (.tmp 77), none⟩, ⟨some 5, .mov (.tmp 78), none⟩]) .ret)))))))))))
@[reducible] def rv15 : List RV := [.cell 4 6 true, .tmp 5]
theorem low15 : lowC Try.prog tau Try.f15.ntmps (Try.f15.body.getD .skip) = some (erase ic15) := by kernel_rfl
theorem res15 : lowR Try.prog Try.f15.results.toList = some rv15 := by kernel_rfl
theorem bod15 : Try.f15.body = some (Try.f15.body.getD .skip) := by kernel_rfl
theorem cal15 : callable Try.prog 15 = true := by kernel_rfl

end Go.Proofs.YtfgefmkcmkihhaaE

/-! The code of a function, in the engine's words. -/
namespace Go.Proofs.YtfgefmkcmkihhaaE
open Go Go.RowKit
@[reducible] def ic16 : IC := (.seq (.ops [⟨some 2, .box (.tmp 0), none⟩, ⟨some 4, .new [(.slice none 0 0), (.slice none 0 0), (.int .i64 0), (.int .i64 0), (.slice none 0 0), (.slice none 0 0)], none⟩, ⟨some 5, .mov (.const (.int .i64 0)), none⟩]) (.seq (.ops [⟨some 10, .load 6 true (.tmp 2), none⟩, ⟨some 11, .call 35 [(.tmp 10)], none⟩, ⟨none, .store 6 (.tmp 2) (.tmp 11), none⟩]) (.seq (.seq (.ops [⟨some 12, .load 6 true (.tmp 2), none⟩, ⟨some 13, .call 36 [(.tmp 12)], none⟩, ⟨some 14, .una .not (.tmp 13), none⟩, ⟨some 15, .mov (.tmp 14), none⟩, ⟨some 16, .mov (.tmp 1), some (15, false)⟩, ⟨some 17, .call 37 [(.tmp 16), (.const (.int .i64 0)), (.const (.int .i64 1))], some (15, false)⟩, ⟨some 18, .una .not (.tmp 17), some (15, false)⟩, ⟨some 19, .pick (.tmp 15) (.const (.bool true)) (.tmp 18), none⟩, ⟨some 20, .mov (.tmp 19), none⟩, ⟨some 21, .mov (.tmp 1), some (20, false)⟩, ⟨some 22, .bin .sub (.const (.int .i64 1)) (.tmp 21), some (20, false)⟩, ⟨some 23, .fadr 4 (.tmp 2), some (20, false)⟩, ⟨some 24, .iarr 1 2 (.tmp 23) (.tmp 22), some (20, false)⟩, ⟨some 25, .load 1 false (.tmp 24), some (20, false)⟩, ⟨some 26, .len (.tmp 25), some (20, false)⟩, ⟨some 27, .bin .eql (.tmp 26) (.const (.int .i64 60)), some (20, false)⟩, ⟨some 28, .pick (.tmp 20) (.const (.bool true)) (.tmp 27), none⟩]) (.cond (.tmp 28) (.seq (.ops [⟨some 29, .load 6 true (.tmp 2), none⟩, ⟨none, .store 6 (.tmp 4) (.tmp 29), none⟩, ⟨some 5, .mov (.const (.int .i64 (-1))), none⟩]) .ret) .skip)) (.seq (.ops [⟨some 6, .mov (.const (.int .i64 (-1))), none⟩]) (.seq (.ops [⟨some 30, .mov (.tmp 1), none⟩, ⟨some 31, .fadr 0 (.tmp 2), none⟩, ⟨some 32, .iarr 1 2 (.tmp 31) (.tmp 30), none⟩, ⟨some 33, .load 1 false (.tmp 32), none⟩, ⟨some 7, .mov (.tmp 33), none⟩]) (.seq (.seq (.ops [⟨some 34, .mov (.tmp 7), none⟩, ⟨some 35, .len (.tmp 34), none⟩, ⟨some 36, .bin .sub (.tmp 35) (.const (.int .i64 1)), none⟩, ⟨some 8, .mov (.tmp 36), none⟩]) (.block 0 (.loop (.seq (.seq (.ops [⟨some 37, .mov (.tmp 8), none⟩, ⟨some 38, .bin .geq (.tmp 37) (.const (.int .i64 0)), none⟩]) (.cond (.tmp 38) .skip (.exit 0))) (.seq (.block 1 (.seq (.ops [⟨some 41, .mov (.tmp 7), none⟩, ⟨some 42, .mov (.tmp 8), none⟩, ⟨some 43, .iadr 1 (.tmp 41) (.tmp 42), none⟩, ⟨some 44, .load 1 false (.tmp 43), none⟩, ⟨some 45, .bin .eql (.tmp 44) (.const (.int .i64 0)), none⟩, ⟨some 46, .mov (.tmp 45), none⟩, ⟨some 47, .mov (.tmp 8), some (46, true)⟩, ⟨some 48, .bin .rem (.tmp 47) (.const (.int .i64 2)), some (46, true)⟩, ⟨some 49, .mov (.tmp 1), some (46, true)⟩, ⟨some 50, .bin .eql (.tmp 48) (.tmp 49), some (46, true)⟩, ⟨some 51, .pick (.tmp 46) (.tmp 50) (.const (.bool false)), none⟩]) (.cond (.tmp 51) (.ops [⟨some 52, .mov (.tmp 8), none⟩, ⟨some 6, .mov (.tmp 52), none⟩]) .skip))) (.ops [⟨some 39, .mov (.tmp 8), none⟩, ⟨some 40, .bin .sub (.tmp 39) (.const (.int .i64 1)), none⟩, ⟨some 8, .mov (.tmp 40), none⟩])))))) (.seq (.seq (.ops [⟨some 53, .mov (.tmp 7), none⟩, ⟨some 54, .len (.tmp 53), none⟩, ⟨some 55, .bin .sub (.tmp 54) (.const (.int .i64 1)), none⟩, ⟨some 9, .mov (.tmp 55), none⟩]) (.block 2 (.loop (.seq (.seq (.ops [⟨some 56, .mov (.tmp 9), none⟩, ⟨some 57, .bin .geq (.tmp 56) (.const (.int .i64 0)), none⟩, ⟨some 58, .mov (.tmp 57), none⟩, ⟨some 59, .mov (.tmp 6), some (58, true)⟩, ⟨some 60, .bin .lss (.tmp 59) (.const (.int .i64 0)), some (58, true)⟩, ⟨some 61, .pick (.tmp 58) (.tmp 60) (.const (.bool false)), none⟩]) (.cond (.tmp 61) .skip (.exit 2))) (.seq (.block 3 (.seq (.ops [⟨some 64, .mov (.tmp 7), none⟩, ⟨some 65, .mov (.tmp 9), none⟩, ⟨some 66, .iadr 1 (.tmp 64) (.tmp 65), none⟩, ⟨some 67, .load 1 false (.tmp 66), none⟩, ⟨some 68, .bin .eql (.tmp 67) (.const (.int .i64 0)), none⟩]) (.cond (.tmp 68) (.ops [⟨some 69, .mov (.tmp 9), none⟩, ⟨some 6, .mov (.tmp 69), none⟩]) .skip))) (.ops [⟨some 62, .mov (.tmp 9), none⟩, ⟨some 63, .bin .sub (.tmp 62) (.const (.int .i64 1)), none⟩, ⟨some 9, .mov (.tmp 63), none⟩])))))) (.seq (.seq (.ops [⟨some 70, .mov (.tmp 6), none⟩, ⟨some 71, .bin .geq (.tmp 70) (.const (.int .i64 0)), none⟩]) (.cond (.tmp 71) (.seq (.ops [⟨some 72, .mov (.tmp 7), none⟩, ⟨some 73, .mov (.tmp 6), none⟩, ⟨some 74, .iadr 1 (.tmp 72) (.tmp 73), none⟩, ⟨none, .store 1 (.tmp 74) (.const (.int .i64 1)), none⟩]) (.ops [⟨some 75, .mov (.tmp 1), none⟩, ⟨some 76, .bin .sub (.const (.int .i64 1)) (.tmp 75), none⟩, ⟨some 77, .mov (.tmp 1), none⟩, ⟨some 78, .bin .sub (.const (.int .i64 1)) (.tmp 77), none⟩, ⟨some 79, .fadr 4 (.tmp 2), none⟩, ⟨some 80, .iarr 1 2 (.tmp 79) (.tmp 78), none⟩, ⟨some 81, .load 1 false (.tmp 80), none⟩, ⟨some 82, .mov (.tmp 6), none⟩, ⟨some 83, .bld [(.int .i64 0), (.int .i64 0)] [(0, 1, (.const (.int .i64 1))), (1, 1, (.tmp 82))], none⟩, ⟨some 84, .blds .note 1 [(0, 2, (.tmp 83))], none⟩, ⟨some 85, .app .note 16 (.tmp 81) (.tmp 84), none⟩, ⟨some 86, .fadr 4 (.tmp 2), none⟩, ⟨some 87, .iarr 1 2 (.tmp 86) (.tmp 76), none⟩, ⟨none, .store 1 (.tmp 87) (.tmp 85), none⟩])) .skip)) (.seq (.ops [⟨some 88, .load 6 true (.tmp 2), none⟩, ⟨some 89, .mov (.tmp 6), none⟩, ⟨none, .store 6 (.tmp 4) (.tmp 88), none⟩, ⟨some 5, .mov (.tmp 89), none⟩]) .ret)))))))))
@[reducible] def rv16 : List RV := [.cell 4 6 true, .tmp 5]
theorem low16 : lowC Try.prog tau Try.f16.ntmps (Try.f16.body.getD .skip) = some (erase ic16) := by kernel_rfl
theorem res16 : lowR Try.prog Try.f16.results.toList = some rv16 := by kernel_rfl
theorem bod16 : Try.f16.body = some (Try.f16.body.getD .skip) := by kernel_rfl
theorem cal16 : callable Try.prog 16 = true := by kernel_rfl

end Go.Proofs.YtfgefmkcmkihhaaE
