/- A part of a proof that a law of the given program holds for every input: no condition. -/
import Derived.Test.YthghcialeghgoaaDoorProg
import Derived.KernelRfl
import Derived.Deep.Slices
import Derived.OpenShut
import Derived.SizedLaws
import Derived.WideLaws
import Derived.Test.YthghcialeghgoaaDoorRows
import Derived.ProofKit
import Derived.ShutString
import Derived.ChangeOld
import Derived.Below
import Derived.LaidLaws
import Derived.LaidHandle
import Derived.SevenTiedAt
import Derived.Test.YthghcialeghgoaaDoorTie
import Derived.Test.YthghcialeghgoaaDoorCards
import Derived.Test.YthghcialeghgoaaDoorKFnTimers2

set_option linter.unusedSimpArgs false
set_option linter.unusedVariables false
/-! The code of a function, in the engine's words. -/
namespace Go.Proofs.YthghcialeghgoaaDoorE
open Go Go.RowKit
@[reducible] def ic46 : IC := (.seq (.ops [⟨some 4, .mov (.const (.int .i64 0)), none⟩]) (.seq (.seq (.ops [⟨some 9, .mov (.tmp 1), none⟩, ⟨some 10, .bin .leq (.tmp 9) (.const (.int .i64 0)), none⟩]) (.cond (.tmp 10) (.seq (.ops [⟨some 4, .mov (.const (.int .i64 0)), none⟩]) .ret) .skip)) (.seq (.seq (.ops [⟨some 11, .mov (.tmp 1), none⟩, ⟨some 12, .bin .leq (.tmp 11) (.const (.int .i64 256)), none⟩]) (.cond (.tmp 12) (.seq (.ops [⟨some 13, .mov (.tmp 0), none⟩, ⟨some 14, .call 62 [(.tmp 13)], none⟩, ⟨some 15, .mov (.tmp 1), none⟩, ⟨some 16, .bin .rem (.tmp 14) (.tmp 15), none⟩, ⟨some 4, .mov (.tmp 16), none⟩]) .ret) .skip)) (.seq (.ops [⟨some 17, .mov (.tmp 0), none⟩, ⟨some 18, .call 62 [(.tmp 17)], none⟩, ⟨some 5, .mov (.tmp 18), none⟩]) (.seq (.ops [⟨some 19, .mov (.tmp 0), none⟩, ⟨some 20, .call 62 [(.tmp 19)], none⟩, ⟨some 6, .mov (.tmp 20), none⟩]) (.seq (.ops [⟨some 21, .mov (.tmp 0), none⟩, ⟨some 22, .call 62 [(.tmp 21)], none⟩, ⟨some 7, .mov (.tmp 22), none⟩]) (.seq (.ops [⟨some 23, .mov (.tmp 0), none⟩, ⟨some 24, .call 62 [(.tmp 23)], none⟩, ⟨some 8, .mov (.tmp 24), none⟩]) (.seq (.ops [⟨some 25, .mov (.tmp 5), none⟩, ⟨some 26, .bin .mul (.tmp 25) (.const (.int .i64 16777216)), none⟩, ⟨some 27, .mov (.tmp 6), none⟩, ⟨some 28, .bin .mul (.tmp 27) (.const (.int .i64 65536)), none⟩, ⟨some 29, .bin .add (.tmp 26) (.tmp 28), none⟩, ⟨some 30, .mov (.tmp 7), none⟩, ⟨some 31, .bin .mul (.tmp 30) (.const (.int .i64 256)), none⟩, ⟨some 32, .bin .add (.tmp 29) (.tmp 31), none⟩, ⟨some 33, .mov (.tmp 8), none⟩, ⟨some 34, .bin .add (.tmp 32) (.tmp 33), none⟩, ⟨some 35, .mov (.tmp 1), none⟩, ⟨some 36, .bin .rem (.tmp 34) (.tmp 35), none⟩, ⟨some 4, .mov (.tmp 36), none⟩]) .ret))))))))
@[reducible] def rv46 : List RV := [.tmp 4]
theorem low46 : lowC Tryd.prog tau Tryd.f46.ntmps (Tryd.f46.body.getD .skip) = some (erase ic46) := by kernel_rfl
theorem res46 : lowR Tryd.prog Tryd.f46.results.toList = some rv46 := by kernel_rfl
theorem bod46 : Tryd.f46.body = some (Tryd.f46.body.getD .skip) := by kernel_rfl
theorem cal46 : callable Tryd.prog 46 = true := by kernel_rfl

end Go.Proofs.YthghcialeghgoaaDoorE

/-! The code of a function, in the engine's words. -/
namespace Go.Proofs.YthghcialeghgoaaDoorE
open Go Go.RowKit
@[reducible] def ic55 : IC := (.seq (.ops [⟨some 4, .mov (.const (.int .i64 0)), none⟩]) (.seq (.ops [⟨some 5, .mov (.tmp 1), none⟩, ⟨some 6, .mov (.tmp 0), none⟩, ⟨some 7, .mov (.tmp 1), none⟩, ⟨some 8, .len (.tmp 7), none⟩, ⟨some 9, .call 46 [(.tmp 6), (.tmp 8)], none⟩, ⟨some 10, .iadr 1 (.tmp 5) (.tmp 9), none⟩, ⟨some 11, .load 1 false (.tmp 10), none⟩, ⟨some 4, .mov (.tmp 11), none⟩]) .ret))
@[reducible] def rv55 : List RV := [.tmp 4]
theorem low55 : lowC Tryd.prog tau Tryd.f55.ntmps (Tryd.f55.body.getD .skip) = some (erase ic55) := by kernel_rfl
theorem res55 : lowR Tryd.prog Tryd.f55.results.toList = some rv55 := by kernel_rfl
theorem bod55 : Tryd.f55.body = some (Tryd.f55.body.getD .skip) := by kernel_rfl
theorem cal55 : callable Tryd.prog 55 = true := by kernel_rfl

end Go.Proofs.YthghcialeghgoaaDoorE

/-! The code of a function, in the engine's words. -/
namespace Go.Proofs.YthghcialeghgoaaDoorE
open Go Go.RowKit
@[reducible] def ic62 : IC := (.seq (.ops [⟨some 2, .mov (.const (.int .i64 0)), none⟩]) (.seq (.ops [⟨some 4, .mov (.tmp 0), none⟩, ⟨some 5, .mov (.tmp 0), none⟩, ⟨some 6, .nilc (.tmp 5), none⟩, ⟨some 7, .fadr 2 (.tmp 6), none⟩, ⟨some 8, .load 1 false (.tmp 7), none⟩, ⟨some 9, .bin .mul (.tmp 8) (.const (.int .i64 6364136223846793005)), none⟩, ⟨some 10, .bin .add (.tmp 9) (.const (.int .i64 1442695040888963407)), none⟩, ⟨some 11, .nilc (.tmp 4), none⟩, ⟨some 12, .fadr 2 (.tmp 11), none⟩, ⟨none, .store 1 (.tmp 12) (.tmp 10), none⟩]) (.seq (.draw [⟨some 13, .mov (.tmp 0), none⟩, ⟨some 14, .nilc (.tmp 13), none⟩, ⟨some 15, .fadr 2 (.tmp 14), none⟩, ⟨some 16, .load 1 false (.tmp 15), none⟩, ⟨some 17, .bin .shr (.tmp 16) (.const (.int .u64 33)), none⟩, ⟨some 18, .mov (.tmp 0), none⟩, ⟨some 19, .nilc (.tmp 18), none⟩, ⟨some 20, .fadr 2 (.tmp 19), none⟩, ⟨some 21, .load 1 false (.tmp 20), none⟩, ⟨some 22, .bin .shr (.tmp 21) (.const (.int .u64 45)), none⟩, ⟨some 23, .bin .xor (.tmp 17) (.tmp 22), none⟩, ⟨some 24, .bin .and (.tmp 23) (.const (.int .i64 255)), none⟩, ⟨some 3, .mov (.tmp 24), none⟩] (.held ⟨some 13, .mov (.tmp 0), none⟩ (.held ⟨some 14, .nilc (.tmp 13), none⟩ (.held ⟨some 15, .fadr 2 (.tmp 14), none⟩ (.held ⟨some 16, .load 1 false (.tmp 15), none⟩ (.held ⟨some 17, .bin .shr (.tmp 16) (.const (.int .u64 33)), none⟩ (.held ⟨some 18, .mov (.tmp 0), none⟩ (.held ⟨some 19, .nilc (.tmp 18), none⟩ (.held ⟨some 20, .fadr 2 (.tmp 19), none⟩ (.held ⟨some 21, .load 1 false (.tmp 20), none⟩ (.held ⟨some 22, .bin .shr (.tmp 21) (.const (.int .u64 45)), none⟩ (.held ⟨some 23, .bin .xor (.tmp 17) (.tmp 22), none⟩ (.held ⟨some 24, .bin .and (.tmp 23) (.const (.int .i64 255)), none⟩ (.held ⟨some 3, .mov (.tmp 24), none⟩ .done)))))))))))))) (.seq (.seq (.draw [⟨some 25, .mov (.tmp 0), none⟩, ⟨some 26, .nilc (.tmp 25), none⟩, ⟨some 27, .fadr 1 (.tmp 26), none⟩, ⟨some 28, .load 1 false (.tmp 27), none⟩, ⟨some 29, .mov (.tmp 0), none⟩, ⟨some 30, .nilc (.tmp 29), none⟩, ⟨some 31, .fadr 0 (.tmp 30), none⟩, ⟨some 32, .load 1 false (.tmp 31), none⟩, ⟨some 33, .len (.tmp 32), none⟩, ⟨some 34, .bin .lss (.tmp 28) (.tmp 33), none⟩] (.held ⟨some 25, .mov (.tmp 0), none⟩ (.held ⟨some 26, .nilc (.tmp 25), none⟩ (.held ⟨some 27, .fadr 1 (.tmp 26), none⟩ (.held ⟨some 28, .load 1 false (.tmp 27), none⟩ (.held ⟨some 29, .mov (.tmp 0), none⟩ (.held ⟨some 30, .nilc (.tmp 29), none⟩ (.held ⟨some 31, .fadr 0 (.tmp 30), none⟩ (.held ⟨some 32, .load 1 false (.tmp 31), none⟩ (.held ⟨some 33, .len (.tmp 32), none⟩ (.held ⟨some 34, .bin .lss (.tmp 28) (.tmp 33), none⟩ .done))))))))))) (.cond (.tmp 34) (.seq (.draw [⟨some 35, .mov (.tmp 3), none⟩, ⟨some 36, .mov (.tmp 0), none⟩, ⟨some 37, .nilc (.tmp 36), none⟩, ⟨some 38, .fadr 0 (.tmp 37), none⟩, ⟨some 39, .load 1 false (.tmp 38), none⟩, ⟨some 40, .mov (.tmp 0), none⟩, ⟨some 41, .nilc (.tmp 40), none⟩, ⟨some 42, .fadr 1 (.tmp 41), none⟩, ⟨some 43, .load 1 false (.tmp 42), none⟩, ⟨some 44, .iadr 1 (.tmp 39) (.tmp 43), none⟩, ⟨some 45, .load 1 false (.tmp 44), none⟩, ⟨some 46, .cvi .i64 (.tmp 45), none⟩, ⟨some 47, .bin .add (.tmp 35) (.tmp 46), none⟩, ⟨some 48, .bin .and (.tmp 47) (.const (.int .i64 255)), none⟩, ⟨some 3, .mov (.tmp 48), none⟩] (.held ⟨some 35, .mov (.tmp 3), none⟩ (.held ⟨some 36, .mov (.tmp 0), none⟩ (.held ⟨some 37, .nilc (.tmp 36), none⟩ (.held ⟨some 38, .fadr 0 (.tmp 37), none⟩ (.held ⟨some 39, .load 1 false (.tmp 38), none⟩ (.held ⟨some 40, .mov (.tmp 0), none⟩ (.held ⟨some 41, .nilc (.tmp 40), none⟩ (.held ⟨some 42, .fadr 1 (.tmp 41), none⟩ (.held ⟨some 43, .load 1 false (.tmp 42), none⟩ (.held ⟨some 44, .iadr 1 (.tmp 39) (.tmp 43), none⟩ (.held ⟨some 45, .load 1 false (.tmp 44), none⟩ (.held ⟨some 46, .cvi .i64 (.tmp 45), none⟩ (.held ⟨some 47, .bin .add (.tmp 35) (.tmp 46), none⟩ (.held ⟨some 48, .bin .and (.tmp 47) (.const (.int .i64 255)), none⟩ (.held ⟨some 3, .mov (.tmp 48), none⟩ .done)))))))))))))))) (.ops [⟨some 49, .mov (.tmp 0), none⟩, ⟨some 50, .mov (.tmp 0), none⟩, ⟨some 51, .nilc (.tmp 50), none⟩, ⟨some 52, .fadr 1 (.tmp 51), none⟩, ⟨some 53, .load 1 false (.tmp 52), none⟩, ⟨some 54, .bin .add (.tmp 53) (.const (.int .i64 1)), none⟩, ⟨some 55, .nilc (.tmp 49), none⟩, ⟨some 56, .fadr 1 (.tmp 55), none⟩, ⟨none, .store 1 (.tmp 56) (.tmp 54), none⟩])) .skip)) (.seq (.ops [⟨some 57, .mov (.tmp 3), none⟩, ⟨some 2, .mov (.tmp 57), none⟩]) .ret)))))
@[reducible] def rv62 : List RV := [.tmp 2]
theorem low62 : lowC Tryd.prog tau Tryd.f62.ntmps (Tryd.f62.body.getD .skip) = some (erase ic62) := by kernel_rfl
theorem res62 : lowR Tryd.prog Tryd.f62.results.toList = some rv62 := by kernel_rfl
theorem bod62 : Tryd.f62.body = some (Tryd.f62.body.getD .skip) := by kernel_rfl
theorem cal62 : callable Tryd.prog 62 = true := by kernel_rfl

end Go.Proofs.YthghcialeghgoaaDoorE

/-! The code of a function, in the engine's words. -/
namespace Go.Proofs.YthghcialeghgoaaDoorE
open Go Go.RowKit
@[reducible] def ic67 : IC := (.seq (.ops [⟨some 4, .mov (.const (.string ⟨#[]⟩)), none⟩]) (.seq (.ops [⟨some 5, .mov (.const (.string ⟨#[]⟩)), none⟩]) (.seq (.seq (.ops [⟨some 6, .mov (.const (.int .i64 0)), none⟩]) (.block 0 (.loop (.seq (.seq (.ops [⟨some 7, .mov (.tmp 6), none⟩, ⟨some 8, .mov (.tmp 1), none⟩, ⟨some 9, .bin .lss (.tmp 7) (.tmp 8), none⟩]) (.cond (.tmp 9) .skip (.exit 0))) (.seq (.block 1 (.ops [⟨some 12, .mov (.tmp 5), none⟩, ⟨some 13, .mov (.tmp 0), none⟩, ⟨some 14, .blds .str 7 [(0, 1, (.const (.string ⟨#[49]⟩))), (1, 1, (.const (.string ⟨#[50]⟩))), (2, 1, (.const (.string ⟨#[48]⟩))), (3, 1, (.const (.string ⟨#[57]⟩))), (4, 1, (.const (.string ⟨#[49]⟩))), (5, 1, (.const (.string ⟨#[50]⟩))), (6, 1, (.const (.string ⟨#[35]⟩)))], none⟩, ⟨some 15, .call 45 [(.tmp 13), (.tmp 14)], none⟩, ⟨some 16, .bin .add (.tmp 12) (.tmp 15), none⟩, ⟨some 5, .mov (.tmp 16), none⟩])) (.ops [⟨some 10, .mov (.tmp 6), none⟩, ⟨some 11, .bin .add (.tmp 10) (.const (.int .i64 1)), none⟩, ⟨some 6, .mov (.tmp 11), none⟩])))))) (.seq (.ops [⟨some 17, .mov (.tmp 5), none⟩, ⟨some 4, .mov (.tmp 17), none⟩]) .ret))))
@[reducible] def rv67 : List RV := [.tmp 4]
theorem low67 : lowC Tryd.prog tau Tryd.f67.ntmps (Tryd.f67.body.getD .skip) = some (erase ic67) := by kernel_rfl
theorem res67 : lowR Tryd.prog Tryd.f67.results.toList = some rv67 := by kernel_rfl
theorem bod67 : Tryd.f67.body = some (Tryd.f67.body.getD .skip) := by kernel_rfl
theorem cal67 : callable Tryd.prog 67 = true := by kernel_rfl

end Go.Proofs.YthghcialeghgoaaDoorE

/-! The cursor over a draw: of what it draws only the bounds are told. -/
namespace Go.Proofs.YthghcialeghgoaaDoorE
open Go Go.RowKit
set_option linter.unusedSimpArgs false
set_option linter.unusedVariables false
set_option maxRecDepth 20000
set_option maxHeartbeats 4000000

def takeP : List AVal → List Nat
  | .ptr m _ :: _ => [m]
  | _ => []
theorem takeP_eq {m off : Nat} {r : List AVal} : takeP (.ptr m off :: r) = [m] := id rfl
/-- A cursor's three cells. -/
def cur (b : List Int) (i h : Int) : List AVal := [.rs .byte b, .v (.int .i64 i), .v (.int .i64 h)]
noncomputable def curH (h : Int) : Int := wr .i64 (wr .i64 (h * 6364136223846793005) + 1442695040888963407)
noncomputable def curX0 (h : Int) : Int := andV .i64 (xorV .i64 (shrV .i64 (curH h) 33) (shrV .i64 (curH h) 45)) 255
noncomputable def curX (b : List Int) (i h : Int) : Int := if i < b.length then andV .i64 (wr .i64 (curX0 h + wr .i64 (b.getD i.toNat 0))) 255 else curX0 h
def curI (b : List Int) (i : Int) : Int := if i < b.length then i + 1 else i
theorem curH_eq {h : Int} : curH h = wr .i64 (wr .i64 (h * 6364136223846793005) + 1442695040888963407) := id rfl
theorem curX0_eq {h : Int} : curX0 h = andV .i64 (xorV .i64 (shrV .i64 (curH h) 33) (shrV .i64 (curH h) 45)) 255 := id rfl
def spByte : Spec := ⟨fun _ => takeP, fun args objs K => match args, objs with
  | [.ptr 0 0], [.box [.rs .byte b, .v (.int .i64 i), .v (.int .i64 h)]] => (0 ≤ i ∧ i ≤ b.length ∧ b.length ≤ 1099511627776) ∧
      K (.v (.int .i64 (curX b i h))) [(0, .box [.rs .byte b, .v (.int .i64 (curI b i)), .v (.int .i64 (curH h))])] 1
  | _, _ => False, true⟩
theorem spByte_t {L : Hp} {a : List AVal} : Spec.take spByte L a = takeP a := id rfl
theorem spByte_k : Spec.keep spByte = true := id rfl
theorem spByte_f {b} {i} {h} {K : AVal → Hp → Nat → Prop} : Spec.f spByte ([.ptr 0 0]) ([.box [.rs .byte b, .v (.int .i64 i), .v (.int .i64 h)]]) K = ((0 ≤ i ∧ i ≤ b.length ∧ b.length ≤ 1099511627776) ∧
      K (.v (.int .i64 (curX b i h))) [(0, .box [.rs .byte b, .v (.int .i64 (curI b i)), .v (.int .i64 (curH h))])] 1) := id rfl
theorem valid62 : Valid Tryd.prog 62 spByte := by
  refine validI (Γ := lk []) Tryd.func62 bod62 low62 res62 (good_of trivial) ?_
  intro E args objs K h0 hE hG hP
  simp only [spByte] at h0
  split at h0
  · refine ⟨by simp [Tryd.ntmps62], ?_⟩
    rename_i b i h
    obtain ⟨⟨b1, b2, b3⟩, h0⟩ := h0
    have hw : wr .i64 (i + 1) = i + 1 := wrap_id (by omega) (by omega)
    by_cases hi : i < b.length
    · simp only [curX, curI, if_pos hi] at h0
      simp (config := { maxSteps := 2000000 }) only [go_sem, hG, hP, Nat.reduceEqDiff, ↓reduceIte, reduceCtorEq, Nat.reduceAdd, Nat.reduceSub, Nat.reduceMul, Nat.reduceLT, Nat.reduceLeDiff, Int.reduceAdd, Int.reduceSub, Int.reduceMul, Int.reduceLT, Int.reduceLE, Int.reduceEq, Int.reduceNeg, Int.reduceNe, Int.reduceGE, Int.reduceGT, Nat.reduceBEq, Int.reduceToNat,  hi, hw, ← curH_eq, ← curX0_eq]
      repeat (refine And.intro (by first | omega | (simp; done) | (simp; omega) | (unfold appRoom; omega)) ?_)
      refine ⟨_, _, _, ?_, h0⟩
      simp (config := { maxSteps := 2000000 }) only [go_sem, hG, hP, Nat.reduceEqDiff, ↓reduceIte, reduceCtorEq, Nat.reduceAdd, Nat.reduceSub, Nat.reduceMul, Nat.reduceLT, Nat.reduceLeDiff, Int.reduceAdd, Int.reduceSub, Int.reduceMul, Int.reduceLT, Int.reduceLE, Int.reduceEq, Int.reduceNeg, Int.reduceNe, Int.reduceGE, Int.reduceGT, Nat.reduceBEq, Int.reduceToNat]
      all_goals simp
    · simp only [curX, curI, if_neg hi] at h0
      simp (config := { maxSteps := 2000000 }) only [go_sem, hG, hP, Nat.reduceEqDiff, ↓reduceIte, reduceCtorEq, Nat.reduceAdd, Nat.reduceSub, Nat.reduceMul, Nat.reduceLT, Nat.reduceLeDiff, Int.reduceAdd, Int.reduceSub, Int.reduceMul, Int.reduceLT, Int.reduceLE, Int.reduceEq, Int.reduceNeg, Int.reduceNe, Int.reduceGE, Int.reduceGT, Nat.reduceBEq, Int.reduceToNat,  hi, ← curH_eq, ← curX0_eq]
      repeat (refine And.intro (by first | omega | (simp; done) | (simp; omega) | (unfold appRoom; omega)) ?_)
      refine ⟨_, _, _, ?_, h0⟩
      simp (config := { maxSteps := 2000000 }) only [go_sem, hG, hP, Nat.reduceEqDiff, ↓reduceIte, reduceCtorEq, Nat.reduceAdd, Nat.reduceSub, Nat.reduceMul, Nat.reduceLT, Nat.reduceLeDiff, Int.reduceAdd, Int.reduceSub, Int.reduceMul, Int.reduceLT, Int.reduceLE, Int.reduceEq, Int.reduceNeg, Int.reduceNe, Int.reduceGE, Int.reduceGT, Nat.reduceBEq, Int.reduceToNat]
      all_goals simp
  · exact h0.elim
theorem andV_255 (a : Int) : 0 ≤ andV .i64 a 255 ∧ andV .i64 a 255 ≤ 255 := by
  unfold andV
  have h : (BitVec.ofInt (IntKind.bits .i64) a &&& BitVec.ofInt (IntKind.bits .i64) 255).toNat ≤ 255 := by
    rw [BitVec.toNat_and]
    exact Nat.le_trans Nat.and_le_right (by decide)
  rw [wrap_id (by omega) (by omega)]
  omega
theorem curX_bd (b : List Int) (i h : Int) : 0 ≤ curX b i h ∧ curX b i h ≤ 255 := by
  unfold curX; split
  · exact andV_255 _
  · exact andV_255 _
theorem curI_bd {b : List Int} {i : Int} (h : 0 ≤ i ∧ i ≤ b.length) : 0 ≤ curI b i ∧ curI b i ≤ b.length := by
  unfold curI; split <;> omega
/-- The same, of which only the bounds are told. -/
def spByteA : Spec := ⟨fun _ => takeP, fun args objs K => match args, objs with
  | [.ptr 0 0], [.box [.rs .byte b, .v (.int .i64 i), .v (.int .i64 h)]] => (0 ≤ i ∧ i ≤ b.length ∧ b.length ≤ 1099511627776) ∧
      ∀ x i' h' : Int, (0 ≤ x ∧ x ≤ 255) ∧ (0 ≤ i' ∧ i' ≤ b.length) → K (.v (.int .i64 x)) [(0, .box [.rs .byte b, .v (.int .i64 i'), .v (.int .i64 h')])] 1
  | _, _ => False, true⟩
theorem spByteA_t {L : Hp} {a : List AVal} : Spec.take spByteA L a = takeP a := id rfl
theorem spByteA_k : Spec.keep spByteA = true := id rfl
theorem spByteA_f {b} {i} {h} {K : AVal → Hp → Nat → Prop} : Spec.f spByteA ([.ptr 0 0]) ([.box [.rs .byte b, .v (.int .i64 i), .v (.int .i64 h)]]) K = ((0 ≤ i ∧ i ≤ b.length ∧ b.length ≤ 1099511627776) ∧
      ∀ x i' h' : Int, (0 ≤ x ∧ x ≤ 255) ∧ (0 ≤ i' ∧ i' ≤ b.length) → K (.v (.int .i64 x)) [(0, .box [.rs .byte b, .v (.int .i64 i'), .v (.int .i64 h')])] 1) := id rfl
theorem valid62A : Valid Tryd.prog 62 spByteA := by
  intro W C ρ args vals objs K hd hp h
  refine valid62 W C ρ args vals objs K hd hp ?_
  simp only [spByteA] at h
  split at h
  · exact ⟨h.1, h.2 _ _ _ ⟨curX_bd _ _ _, curI_bd ⟨h.1.1, h.1.2.1⟩⟩⟩
  · exact h.elim
/-- A number below another, or 0; and where the cursor stands behind it. -/
noncomputable def belV (b : List Int) (i h n : Int) : Int :=
  if n ≤ 0 then 0 else if n ≤ 256 then (curX b i h).tmod n
  else (curX b i h * 16777216 + curX b (curI b i) (curH h) * 65536 + curX b (curI b (curI b i)) (curH (curH h)) * 256 + curX b (curI b (curI b (curI b i))) (curH (curH (curH h)))).tmod n
def belI (b : List Int) (i n : Int) : Int := if n ≤ 0 then i else if n ≤ 256 then curI b i else curI b (curI b (curI b (curI b i)))
noncomputable def belH (h n : Int) : Int := if n ≤ 0 then h else if n ≤ 256 then curH h else curH (curH (curH (curH h)))
theorem belI_bd {b : List Int} {i n : Int} (h : 0 ≤ i ∧ i ≤ b.length) : 0 ≤ belI b i n ∧ belI b i n ≤ b.length := by
  unfold belI
  split
  · exact h
  · split
    · exact curI_bd h
    · exact curI_bd (curI_bd (curI_bd (curI_bd h)))
theorem belV_bd {b : List Int} {i h n : Int} (hn : 0 < n) : 0 ≤ belV b i h n ∧ belV b i h n < n := by
  unfold belV
  rw [if_neg (by omega)]
  split
  · exact ⟨Int.tmod_nonneg _ (curX_bd _ _ _).1, Int.tmod_lt_of_pos _ hn⟩
  · have h1 := curX_bd b i h
    have h2 := curX_bd b (curI b i) (curH h)
    have h3 := curX_bd b (curI b (curI b i)) (curH (curH h))
    have h4 := curX_bd b (curI b (curI b (curI b i))) (curH (curH (curH h)))
    exact ⟨Int.tmod_nonneg _ (by omega), Int.tmod_lt_of_pos _ hn⟩
def spBelow : Spec := ⟨fun _ => takeP, fun args objs K => match args, objs with
  | [.ptr 0 0, .v (.int .i64 n)], [.box [.rs .byte b, .v (.int .i64 i), .v (.int .i64 h)]] => (0 ≤ i ∧ i ≤ b.length ∧ b.length ≤ 1099511627776) ∧
      K (.v (.int .i64 (belV b i h n))) [(0, .box [.rs .byte b, .v (.int .i64 (belI b i n)), .v (.int .i64 (belH h n))])] 1
  | _, _ => False, true⟩
theorem spBelow_t {L : Hp} {a : List AVal} : Spec.take spBelow L a = takeP a := id rfl
theorem spBelow_k : Spec.keep spBelow = true := id rfl
theorem spBelow_f {n} {b} {i} {h} {K : AVal → Hp → Nat → Prop} : Spec.f spBelow ([.ptr 0 0, .v (.int .i64 n)]) ([.box [.rs .byte b, .v (.int .i64 i), .v (.int .i64 h)]]) K = ((0 ≤ i ∧ i ≤ b.length ∧ b.length ≤ 1099511627776) ∧
      K (.v (.int .i64 (belV b i h n))) [(0, .box [.rs .byte b, .v (.int .i64 (belI b i n)), .v (.int .i64 (belH h n))])] 1) := id rfl
theorem valid46 : Valid Tryd.prog 46 spBelow := by
  refine validI (Γ := lk [(62, spByte)]) Tryd.func46 bod46 low46 res46 (good_of ⟨⟨cal62, valid62⟩, trivial⟩) ?_
  intro E args objs K h0 hE hG hP
  simp only [spBelow] at h0
  split at h0
  · refine ⟨by simp [Tryd.ntmps46], ?_⟩
    rename_i n b i h
    obtain ⟨⟨b1, b2, b3⟩, h0⟩ := h0
    by_cases hn : n ≤ 0
    · simp only [belV, belI, belH, if_pos hn] at h0
      simp (config := { maxSteps := 2000000 }) only [go_sem, hG, hP, Nat.reduceEqDiff, ↓reduceIte, reduceCtorEq, Nat.reduceAdd, Nat.reduceSub, Nat.reduceMul, Nat.reduceLT, Nat.reduceLeDiff, Int.reduceAdd, Int.reduceSub, Int.reduceMul, Int.reduceLT, Int.reduceLE, Int.reduceEq, Int.reduceNeg, Int.reduceNe, Int.reduceGE, Int.reduceGT, Nat.reduceBEq, Int.reduceToNat,  spByte_f, spByte_t, spByte_k, takeP_eq, hn]
      refine ⟨_, _, _, ?_, h0⟩
      simp (config := { maxSteps := 2000000 }) only [go_sem, hG, hP, Nat.reduceEqDiff, ↓reduceIte, reduceCtorEq, Nat.reduceAdd, Nat.reduceSub, Nat.reduceMul, Nat.reduceLT, Nat.reduceLeDiff, Int.reduceAdd, Int.reduceSub, Int.reduceMul, Int.reduceLT, Int.reduceLE, Int.reduceEq, Int.reduceNeg, Int.reduceNe, Int.reduceGE, Int.reduceGT, Nat.reduceBEq, Int.reduceToNat]
      all_goals simp
    · have nz : (n = 0) = False := eq_false (by omega)
      have p1 := curI_bd (b := b) (i := i) ⟨b1, b2⟩
      have p2 := curI_bd p1
      have p3 := curI_bd p2
      have x1 := curX_bd b i h
      have x2 := curX_bd b (curI b i) (curH h)
      have x3 := curX_bd b (curI b (curI b i)) (curH (curH h))
      have x4 := curX_bd b (curI b (curI b (curI b i))) (curH (curH (curH h)))
      by_cases hl : n ≤ 256
      · simp only [belV, belI, belH, if_neg hn, if_pos hl] at h0
        simp (config := { maxSteps := 2000000 }) only [go_sem, hG, hP, Nat.reduceEqDiff, ↓reduceIte, reduceCtorEq, Nat.reduceAdd, Nat.reduceSub, Nat.reduceMul, Nat.reduceLT, Nat.reduceLeDiff, Int.reduceAdd, Int.reduceSub, Int.reduceMul, Int.reduceLT, Int.reduceLE, Int.reduceEq, Int.reduceNeg, Int.reduceNe, Int.reduceGE, Int.reduceGT, Nat.reduceBEq, Int.reduceToNat,  spByte_f, spByte_t, spByte_k, takeP_eq, hn, hl, nz]
        repeat (refine And.intro (by first | omega | (simp; done) | (simp; omega) | (unfold appRoom; omega)) ?_)
        refine ⟨_, _, _, ?_, h0⟩
        simp (config := { maxSteps := 2000000 }) only [go_sem, hG, hP, Nat.reduceEqDiff, ↓reduceIte, reduceCtorEq, Nat.reduceAdd, Nat.reduceSub, Nat.reduceMul, Nat.reduceLT, Nat.reduceLeDiff, Int.reduceAdd, Int.reduceSub, Int.reduceMul, Int.reduceLT, Int.reduceLE, Int.reduceEq, Int.reduceNeg, Int.reduceNe, Int.reduceGE, Int.reduceGT, Nat.reduceBEq, Int.reduceToNat]
        all_goals simp
      · simp only [belV, belI, belH, if_neg hn, if_neg hl] at h0
        simp (config := { maxSteps := 2000000 }) only [go_sem, hG, hP, Nat.reduceEqDiff, ↓reduceIte, reduceCtorEq, Nat.reduceAdd, Nat.reduceSub, Nat.reduceMul, Nat.reduceLT, Nat.reduceLeDiff, Int.reduceAdd, Int.reduceSub, Int.reduceMul, Int.reduceLT, Int.reduceLE, Int.reduceEq, Int.reduceNeg, Int.reduceNe, Int.reduceGE, Int.reduceGT, Nat.reduceBEq, Int.reduceToNat,  spByte_f, spByte_t, spByte_k, takeP_eq, hn, hl, nz]
        (try simp (disch := omega) only [wrap_id])
        repeat (refine And.intro (by first | omega | (simp; done) | (simp; omega) | (unfold appRoom; omega)) ?_)
        refine ⟨_, _, _, ?_, h0⟩
        simp (config := { maxSteps := 2000000 }) only [go_sem, hG, hP, Nat.reduceEqDiff, ↓reduceIte, reduceCtorEq, Nat.reduceAdd, Nat.reduceSub, Nat.reduceMul, Nat.reduceLT, Nat.reduceLeDiff, Int.reduceAdd, Int.reduceSub, Int.reduceMul, Int.reduceLT, Int.reduceLE, Int.reduceEq, Int.reduceNeg, Int.reduceNe, Int.reduceGE, Int.reduceGT, Nat.reduceBEq, Int.reduceToNat]
        all_goals simp
  · exact h0.elim
noncomputable def hashN (code : List Int) : Nat → Int
  | 0 => wr .i64 (71933 + (code.length : Int))
  | k + 1 => andV .i64 (wr .i64 (wr .i64 (wr .i64 (hashN code k * 131) + wr .i64 (code.getD k 0)) + 7)) 1073741823
def spNew : Spec := ⟨fun _ _ => [], fun args objs K => match args, objs with
  | [.rs .byte code], [] => code.length ≤ 1099511627776 ∧ K (.ptr 0 0) [(0, .box [.rs .byte code, .v (.int .i64 0), .v (.int .i64 (hashN code (min code.length 4000)))])] 1
  | _, _ => False, true⟩
theorem spNew_t {L : Hp} {a : List AVal} : Spec.take spNew L a = [] := id rfl
theorem spNew_k : Spec.keep spNew = true := id rfl
theorem spNew_f {code} {K : AVal → Hp → Nat → Prop} : Spec.f spNew ([.rs .byte code]) ([]) K = (code.length ≤ 1099511627776 ∧ K (.ptr 0 0) [(0, .box [.rs .byte code, .v (.int .i64 0), .v (.int .i64 (hashN code (min code.length 4000)))])] 1) := id rfl
theorem valid43 : Valid Tryd.prog 43 spNew := by
  refine validI (Γ := lk []) Tryd.func43 bod43 low43 res43 (good_of trivial) ?_
  intro E args objs K h hE hG hP
  simp only [spNew] at h
  split at h
  · refine ⟨by simp [Tryd.ntmps43], ?_⟩
    rename_i code
    obtain ⟨b1, h⟩ := h
    simp (config := { maxSteps := 2000000 }) only [go_sem, hG, hP, Nat.reduceEqDiff, ↓reduceIte, reduceCtorEq, Nat.reduceAdd, Nat.reduceSub, Nat.reduceMul, Nat.reduceLT, Nat.reduceLeDiff, Int.reduceAdd, Int.reduceSub, Int.reduceMul, Int.reduceLT, Int.reduceLE, Int.reduceEq, Int.reduceNeg, Int.reduceNe, Int.reduceGE, Int.reduceGT, Nat.reduceBEq, Int.reduceToNat]
    refine loopI hE (fun k : Nat => ⟨[(0, .rs .byte code), (2, .v (.pointer none)), (3, .v (.int .i64 (hashN code k))), (4, .v (.int .i64 k))], [], 0, Tryd.f43.ntmps⟩) (fun k => k ≤ min code.length 4000) (fun k => code.length - k) ⟨0, Nat.zero_le _, SubS.weak ?_⟩ ?_
    · simp (config := { maxSteps := 2000000 }) only [go_sem, hG, hP, Nat.reduceEqDiff, ↓reduceIte, reduceCtorEq, Nat.reduceAdd, Nat.reduceSub, Nat.reduceMul, Nat.reduceLT, Nat.reduceLeDiff, Int.reduceAdd, Int.reduceSub, Int.reduceMul, Int.reduceLT, Int.reduceLE, Int.reduceEq, Int.reduceNeg, Int.reduceNe, Int.reduceGE, Int.reduceGT, Nat.reduceBEq, Int.reduceToNat,  hashN]
      all_goals (first | simp | (with_reducible rfl))
    · intro k hk
      by_cases hk2 : k < min code.length 4000
      · have e1 : ((k : Int) < code.length) = True := by apply eq_true; omega
        have e2 : ((k : Int) < 4000) = True := by apply eq_true; omega
        simp (config := { maxSteps := 2000000 }) only [go_sem, hG, hP, Nat.reduceEqDiff, ↓reduceIte, reduceCtorEq, Nat.reduceAdd, Nat.reduceSub, Nat.reduceMul, Nat.reduceLT, Nat.reduceLeDiff, Int.reduceAdd, Int.reduceSub, Int.reduceMul, Int.reduceLT, Int.reduceLE, Int.reduceEq, Int.reduceNeg, Int.reduceNe, Int.reduceGE, Int.reduceGT, Nat.reduceBEq, Int.reduceToNat,  e1, e2]
        (try simp (disch := omega) only [wrap_id])
        repeat (refine And.intro (by first | omega | (simp; done) | (simp; omega) | (unfold appRoom; omega)) ?_)
        refine ⟨k + 1, ⟨by omega, by omega⟩, SubS.weak ?_⟩
        simp (config := { maxSteps := 2000000 }) only [go_sem, hG, hP, Nat.reduceEqDiff, ↓reduceIte, reduceCtorEq, Nat.reduceAdd, Nat.reduceSub, Nat.reduceMul, Nat.reduceLT, Nat.reduceLeDiff, Int.reduceAdd, Int.reduceSub, Int.reduceMul, Int.reduceLT, Int.reduceLE, Int.reduceEq, Int.reduceNeg, Int.reduceNe, Int.reduceGE, Int.reduceGT, Nat.reduceBEq, Int.reduceToNat,  hashN]
        all_goals simp
      · have hk3 : k = min code.length 4000 := by omega
        by_cases e1 : (k : Int) < code.length
        · have e2 : ((k : Int) < 4000) = False := by apply eq_false; omega
          simp (config := { maxSteps := 2000000 }) only [go_sem, hG, hP, Nat.reduceEqDiff, ↓reduceIte, reduceCtorEq, Nat.reduceAdd, Nat.reduceSub, Nat.reduceMul, Nat.reduceLT, Nat.reduceLeDiff, Int.reduceAdd, Int.reduceSub, Int.reduceMul, Int.reduceLT, Int.reduceLE, Int.reduceEq, Int.reduceNeg, Int.reduceNe, Int.reduceGE, Int.reduceGT, Nat.reduceBEq, Int.reduceToNat,  e1, e2]
          rw [← hk3] at h
          refine ⟨_, _, _, ?_, h⟩
          simp (config := { maxSteps := 2000000 }) only [go_sem, hG, hP, Nat.reduceEqDiff, ↓reduceIte, reduceCtorEq, Nat.reduceAdd, Nat.reduceSub, Nat.reduceMul, Nat.reduceLT, Nat.reduceLeDiff, Int.reduceAdd, Int.reduceSub, Int.reduceMul, Int.reduceLT, Int.reduceLE, Int.reduceEq, Int.reduceNeg, Int.reduceNe, Int.reduceGE, Int.reduceGT, Nat.reduceBEq, Int.reduceToNat]
          all_goals simp
        · simp (config := { maxSteps := 2000000 }) only [go_sem, hG, hP, Nat.reduceEqDiff, ↓reduceIte, reduceCtorEq, Nat.reduceAdd, Nat.reduceSub, Nat.reduceMul, Nat.reduceLT, Nat.reduceLeDiff, Int.reduceAdd, Int.reduceSub, Int.reduceMul, Int.reduceLT, Int.reduceLE, Int.reduceEq, Int.reduceNeg, Int.reduceNe, Int.reduceGE, Int.reduceGT, Nat.reduceBEq, Int.reduceToNat,  e1]
          rw [← hk3] at h
          refine ⟨_, _, _, ?_, h⟩
          simp (config := { maxSteps := 2000000 }) only [go_sem, hG, hP, Nat.reduceEqDiff, ↓reduceIte, reduceCtorEq, Nat.reduceAdd, Nat.reduceSub, Nat.reduceMul, Nat.reduceLT, Nat.reduceLeDiff, Int.reduceAdd, Int.reduceSub, Int.reduceMul, Int.reduceLT, Int.reduceLE, Int.reduceEq, Int.reduceNeg, Int.reduceNe, Int.reduceGE, Int.reduceGT, Nat.reduceBEq, Int.reduceToNat]
          all_goals simp
  · exact h.elim
def spBig : Spec := ⟨fun _ _ => [], fun args objs K => match args, objs with
  | [.rs .byte b], [] => K (.v (.bool (decide ((b.length : Int) > 1048576)))) [] 0
  | _, _ => False, false⟩
theorem spBig_t {L : Hp} {a : List AVal} : Spec.take spBig L a = [] := id rfl
theorem spBig_k : Spec.keep spBig = false := id rfl
theorem spBig_f {b} {K : AVal → Hp → Nat → Prop} : Spec.f spBig ([.rs .byte b]) ([]) K = (K (.v (.bool (decide ((b.length : Int) > 1048576)))) [] 0) := id rfl
theorem valid20 : Valid Tryd.prog 20 spBig := by
  refine validI (Γ := lk []) Tryd.func20 bod20 low20 res20 (good_of trivial) ?_
  intro E args objs K h hE hG hP
  simp only [spBig] at h
  split at h
  · refine ⟨by simp [Tryd.ntmps20], ?_⟩
    simp (config := { maxSteps := 2000000 }) only [go_sem, hG, hP, Nat.reduceEqDiff, ↓reduceIte, reduceCtorEq, Nat.reduceAdd, Nat.reduceSub, Nat.reduceMul, Nat.reduceLT, Nat.reduceLeDiff, Int.reduceAdd, Int.reduceSub, Int.reduceMul, Int.reduceLT, Int.reduceLE, Int.reduceEq, Int.reduceNeg, Int.reduceNe, Int.reduceGE, Int.reduceGT, Nat.reduceBEq, Int.reduceToNat]
    refine ⟨_, _, _, ?_, h⟩
    simp (config := { maxSteps := 2000000 }) only [go_sem, hG, hP, Nat.reduceEqDiff, ↓reduceIte, reduceCtorEq, Nat.reduceAdd, Nat.reduceSub, Nat.reduceMul, Nat.reduceLT, Nat.reduceLeDiff, Int.reduceAdd, Int.reduceSub, Int.reduceMul, Int.reduceLT, Int.reduceLE, Int.reduceEq, Int.reduceNeg, Int.reduceNe, Int.reduceGE, Int.reduceGT, Nat.reduceBEq, Int.reduceToNat]
  · exact h.elim
def spOnce : Spec := ⟨fun _ => takeP, fun args objs K => match args, objs with
  | [.ptr 0 0, .v (.int .i64 n)], [.box [.rs .byte b, .v (.int .i64 i), .v (.int .i64 h)]] => (0 ≤ i ∧ i ≤ b.length ∧ b.length ≤ 1099511627776) ∧
      K (.v (.bool (decide (belV b i h n = 0)))) [(0, .box [.rs .byte b, .v (.int .i64 (belI b i n)), .v (.int .i64 (belH h n))])] 1
  | _, _ => False, true⟩
theorem spOnce_t {L : Hp} {a : List AVal} : Spec.take spOnce L a = takeP a := id rfl
theorem spOnce_k : Spec.keep spOnce = true := id rfl
theorem spOnce_f {n} {b} {i} {h} {K : AVal → Hp → Nat → Prop} : Spec.f spOnce ([.ptr 0 0, .v (.int .i64 n)]) ([.box [.rs .byte b, .v (.int .i64 i), .v (.int .i64 h)]]) K = ((0 ≤ i ∧ i ≤ b.length ∧ b.length ≤ 1099511627776) ∧
      K (.v (.bool (decide (belV b i h n = 0)))) [(0, .box [.rs .byte b, .v (.int .i64 (belI b i n)), .v (.int .i64 (belH h n))])] 1) := id rfl
theorem valid44 : Valid Tryd.prog 44 spOnce := by
  refine validI (Γ := lk [(46, spBelow)]) Tryd.func44 bod44 low44 res44 (good_of ⟨⟨cal46, valid46⟩, trivial⟩) ?_
  intro E args objs K h0 hE hG hP
  simp only [spOnce] at h0
  split at h0
  · refine ⟨by simp [Tryd.ntmps44], ?_⟩
    rename_i n b i h
    obtain ⟨⟨b1, b2, b3⟩, h0⟩ := h0
    simp (config := { maxSteps := 2000000 }) only [go_sem, hG, hP, Nat.reduceEqDiff, ↓reduceIte, reduceCtorEq, Nat.reduceAdd, Nat.reduceSub, Nat.reduceMul, Nat.reduceLT, Nat.reduceLeDiff, Int.reduceAdd, Int.reduceSub, Int.reduceMul, Int.reduceLT, Int.reduceLE, Int.reduceEq, Int.reduceNeg, Int.reduceNe, Int.reduceGE, Int.reduceGT, Nat.reduceBEq, Int.reduceToNat,  spBelow_f, spBelow_t, spBelow_k, takeP_eq]
    repeat (refine And.intro (by first | omega | (simp; done) | (simp; omega) | (unfold appRoom; omega)) ?_)
    refine ⟨_, _, _, ?_, h0⟩
    simp (config := { maxSteps := 2000000 }) only [go_sem, hG, hP, Nat.reduceEqDiff, ↓reduceIte, reduceCtorEq, Nat.reduceAdd, Nat.reduceSub, Nat.reduceMul, Nat.reduceLT, Nat.reduceLeDiff, Int.reduceAdd, Int.reduceSub, Int.reduceMul, Int.reduceLT, Int.reduceLE, Int.reduceEq, Int.reduceNeg, Int.reduceNe, Int.reduceGE, Int.reduceGT, Nat.reduceBEq, Int.reduceToNat]
    all_goals simp
  · exact h0.elim
def takeCR : List AVal → List Nat
  | .ptr m _ :: .sub r _ _ _ :: _ => [m, r]
  | _ => []
theorem takeCR_eq {m off k z lo n : Nat} {r : List AVal} : takeCR (.ptr m off :: .sub k z lo n :: r) = [m, k] := id rfl
def spPickS : Spec := ⟨fun _ => takeCR, fun args objs K => match args, objs with
  | [.ptr 0 0, .sub 1 1 0 n], [.box [.rs .byte b, .v (.int .i64 i), .v (.int .i64 h)], .row .str l] => ((0 ≤ i ∧ i ≤ b.length ∧ b.length ≤ 1099511627776) ∧ n = l.length ∧ 0 < l.length) ∧
      K (.v (.string (l.getD (belV b i h l.length).toNat ⟨#[]⟩))) [(0, .box [.rs .byte b, .v (.int .i64 (belI b i l.length)), .v (.int .i64 (belH h l.length))]), (1, .row .str l)] 2
  | _, _ => False, true⟩
theorem spPickS_t {L : Hp} {a : List AVal} : Spec.take spPickS L a = takeCR a := id rfl
theorem spPickS_k : Spec.keep spPickS = true := id rfl
theorem spPickS_f {n} {b} {i} {h} {l} {K : AVal → Hp → Nat → Prop} : Spec.f spPickS ([.ptr 0 0, .sub 1 1 0 n]) ([.box [.rs .byte b, .v (.int .i64 i), .v (.int .i64 h)], .row .str l]) K = (((0 ≤ i ∧ i ≤ b.length ∧ b.length ≤ 1099511627776) ∧ n = l.length ∧ 0 < l.length) ∧
      K (.v (.string (l.getD (belV b i h l.length).toNat ⟨#[]⟩))) [(0, .box [.rs .byte b, .v (.int .i64 (belI b i l.length)), .v (.int .i64 (belH h l.length))]), (1, .row .str l)] 2) := id rfl
theorem valid45 : Valid Tryd.prog 45 spPickS := by
  refine validI (Γ := lk [(46, spBelow)]) Tryd.func45 bod45 low45 res45 (good_of ⟨⟨cal46, valid46⟩, trivial⟩) ?_
  intro E args objs K h0 hE hG hP
  simp only [spPickS] at h0
  split at h0
  · refine ⟨by simp [Tryd.ntmps45], ?_⟩
    rename_i n b i h l
    obtain ⟨⟨⟨b1, b2, b3⟩, rfl, b4⟩, h0⟩ := h0
    have hbv := belV_bd (b := b) (i := i) (h := h) (n := (l.length : Int)) (by omega)
    simp (config := { maxSteps := 2000000 }) only [go_sem, hG, hP, Nat.reduceEqDiff, ↓reduceIte, reduceCtorEq, Nat.reduceAdd, Nat.reduceSub, Nat.reduceMul, Nat.reduceLT, Nat.reduceLeDiff, Int.reduceAdd, Int.reduceSub, Int.reduceMul, Int.reduceLT, Int.reduceLE, Int.reduceEq, Int.reduceNeg, Int.reduceNe, Int.reduceGE, Int.reduceGT, Nat.reduceBEq, Int.reduceToNat,  spBelow_f, spBelow_t, spBelow_k, takeP_eq]
    repeat (refine And.intro (by first | omega | (simp; done) | (simp; omega) | (unfold appRoom; omega)) ?_)
    refine ⟨_, _, _, ?_, h0⟩
    simp (config := { maxSteps := 2000000 }) only [go_sem, hG, hP, Nat.reduceEqDiff, ↓reduceIte, reduceCtorEq, Nat.reduceAdd, Nat.reduceSub, Nat.reduceMul, Nat.reduceLT, Nat.reduceLeDiff, Int.reduceAdd, Int.reduceSub, Int.reduceMul, Int.reduceLT, Int.reduceLE, Int.reduceEq, Int.reduceNeg, Int.reduceNe, Int.reduceGE, Int.reduceGT, Nat.reduceBEq, Int.reduceToNat]
    all_goals simp
  · exact h0.elim
def spPickN : Spec := ⟨fun _ => takeCR, fun args objs K => match args, objs with
  | [.ptr 0 0, .sub 1 1 0 n], [.box [.rs .byte b, .v (.int .i64 i), .v (.int .i64 h)], .row .int l] => ((0 ≤ i ∧ i ≤ b.length ∧ b.length ≤ 1099511627776) ∧ n = l.length ∧ 0 < l.length) ∧
      K (.v (.int .i64 (l.getD (belV b i h l.length).toNat 0))) [(0, .box [.rs .byte b, .v (.int .i64 (belI b i l.length)), .v (.int .i64 (belH h l.length))]), (1, .row .int l)] 2
  | _, _ => False, true⟩
theorem spPickN_t {L : Hp} {a : List AVal} : Spec.take spPickN L a = takeCR a := id rfl
theorem spPickN_k : Spec.keep spPickN = true := id rfl
theorem spPickN_f {n} {b} {i} {h} {l} {K : AVal → Hp → Nat → Prop} : Spec.f spPickN ([.ptr 0 0, .sub 1 1 0 n]) ([.box [.rs .byte b, .v (.int .i64 i), .v (.int .i64 h)], .row .int l]) K = (((0 ≤ i ∧ i ≤ b.length ∧ b.length ≤ 1099511627776) ∧ n = l.length ∧ 0 < l.length) ∧
      K (.v (.int .i64 (l.getD (belV b i h l.length).toNat 0))) [(0, .box [.rs .byte b, .v (.int .i64 (belI b i l.length)), .v (.int .i64 (belH h l.length))]), (1, .row .int l)] 2) := id rfl
theorem valid55 : Valid Tryd.prog 55 spPickN := by
  refine validI (Γ := lk [(46, spBelow)]) Tryd.func55 bod55 low55 res55 (good_of ⟨⟨cal46, valid46⟩, trivial⟩) ?_
  intro E args objs K h0 hE hG hP
  simp only [spPickN] at h0
  split at h0
  · refine ⟨by simp [Tryd.ntmps55], ?_⟩
    rename_i n b i h l
    obtain ⟨⟨⟨b1, b2, b3⟩, rfl, b4⟩, h0⟩ := h0
    have hbv := belV_bd (b := b) (i := i) (h := h) (n := (l.length : Int)) (by omega)
    simp (config := { maxSteps := 2000000 }) only [go_sem, hG, hP, Nat.reduceEqDiff, ↓reduceIte, reduceCtorEq, Nat.reduceAdd, Nat.reduceSub, Nat.reduceMul, Nat.reduceLT, Nat.reduceLeDiff, Int.reduceAdd, Int.reduceSub, Int.reduceMul, Int.reduceLT, Int.reduceLE, Int.reduceEq, Int.reduceNeg, Int.reduceNe, Int.reduceGE, Int.reduceGT, Nat.reduceBEq, Int.reduceToNat,  spBelow_f, spBelow_t, spBelow_k, takeP_eq]
    repeat (refine And.intro (by first | omega | (simp; done) | (simp; omega) | (unfold appRoom; omega)) ?_)
    refine ⟨_, _, _, ?_, h0⟩
    simp (config := { maxSteps := 2000000 }) only [go_sem, hG, hP, Nat.reduceEqDiff, ↓reduceIte, reduceCtorEq, Nat.reduceAdd, Nat.reduceSub, Nat.reduceMul, Nat.reduceLT, Nat.reduceLeDiff, Int.reduceAdd, Int.reduceSub, Int.reduceMul, Int.reduceLT, Int.reduceLE, Int.reduceEq, Int.reduceNeg, Int.reduceNe, Int.reduceGE, Int.reduceGT, Nat.reduceBEq, Int.reduceToNat]
    all_goals simp
  · exact h0.elim
def digL : List ByteArray := [⟨#[49]⟩, ⟨#[50]⟩, ⟨#[48]⟩, ⟨#[57]⟩, ⟨#[49]⟩, ⟨#[50]⟩, ⟨#[35]⟩]
/-- Digits are drawn. -/
noncomputable def digD (b : List Int) (i h : Int) : Nat → ByteArray × Int × Int
  | 0 => (⟨#[]⟩, i, h)
  | k + 1 => ((digD b i h k).1 ++ digL.getD (belV b (digD b i h k).2.1 (digD b i h k).2.2 7).toNat ⟨#[]⟩, belI b (digD b i h k).2.1 7, belH (digD b i h k).2.2 7)
theorem digL_one (k : Nat) (h : k < 7) : (digL.getD k ⟨#[]⟩).size = 1 ∧ allDig (digL.getD k ⟨#[]⟩) := by
  have aux : ∀ c : UInt8, digV c.toNat = true → allDig ⟨#[c]⟩ := fun c hc i hi => by
    have : i < 1 := hi
    obtain rfl : i = 0 := by omega
    exact hc
  match k, h with
  | 0, _ => exact ⟨rfl, aux _ (by decide)⟩
  | 1, _ => exact ⟨rfl, aux _ (by decide)⟩
  | 2, _ => exact ⟨rfl, aux _ (by decide)⟩
  | 3, _ => exact ⟨rfl, aux _ (by decide)⟩
  | 4, _ => exact ⟨rfl, aux _ (by decide)⟩
  | 5, _ => exact ⟨rfl, aux _ (by decide)⟩
  | 6, _ => exact ⟨rfl, aux _ (by decide)⟩
theorem digD_bd {b : List Int} {i h : Int} (hi : 0 ≤ i ∧ i ≤ b.length) : ∀ k, (0 ≤ (digD b i h k).2.1 ∧ (digD b i h k).2.1 ≤ b.length) ∧ (digD b i h k).1.size = k ∧ allDig (digD b i h k).1
  | 0 => ⟨hi, rfl, allDig_nil⟩
  | k + 1 => by
    obtain ⟨h1, h2, h3⟩ := digD_bd (h := h) hi k
    have hv := belV_bd (b := b) (i := (digD b i h k).2.1) (h := (digD b i h k).2.2) (n := 7) (by omega)
    obtain ⟨h4, h5⟩ := digL_one (belV b (digD b i h k).2.1 (digD b i h k).2.2 7).toNat (by omega)
    have h6 := belI_bd (n := 7) h1
    refine ⟨h6, ?_, allDig_app h3 h5⟩
    show ((digD b i h k).1 ++ _).size = k + 1
    rw [ByteArray.size_append, h2, h4]
def spDigs : Spec := ⟨fun _ => takeP, fun args objs K => match args, objs with
  | [.ptr 0 0, .v (.int .i64 n)], [.box [.rs .byte b, .v (.int .i64 i), .v (.int .i64 h)]] => ((0 ≤ i ∧ i ≤ b.length ∧ b.length ≤ 1099511627776) ∧ 0 ≤ n ∧ n ≤ 1000) ∧
      K (.v (.string (digD b i h n.toNat).1)) [(0, .box [.rs .byte b, .v (.int .i64 (digD b i h n.toNat).2.1), .v (.int .i64 (digD b i h n.toNat).2.2)])] 1
  | _, _ => False, true⟩
theorem spDigs_t {L : Hp} {a : List AVal} : Spec.take spDigs L a = takeP a := id rfl
theorem spDigs_k : Spec.keep spDigs = true := id rfl
theorem spDigs_f {n} {b} {i} {h} {K : AVal → Hp → Nat → Prop} : Spec.f spDigs ([.ptr 0 0, .v (.int .i64 n)]) ([.box [.rs .byte b, .v (.int .i64 i), .v (.int .i64 h)]]) K = (((0 ≤ i ∧ i ≤ b.length ∧ b.length ≤ 1099511627776) ∧ 0 ≤ n ∧ n ≤ 1000) ∧
      K (.v (.string (digD b i h n.toNat).1)) [(0, .box [.rs .byte b, .v (.int .i64 (digD b i h n.toNat).2.1), .v (.int .i64 (digD b i h n.toNat).2.2)])] 1) := id rfl
theorem valid67 : Valid Tryd.prog 67 spDigs := by
  refine validI (Γ := lk [(45, spPickS)]) Tryd.func67 bod67 low67 res67 (good_of ⟨⟨cal45, valid45⟩, trivial⟩) ?_
  intro E args objs K h0 hE hG hP
  simp only [spDigs] at h0
  split at h0
  · refine ⟨by simp [Tryd.ntmps67], ?_⟩
    rename_i n b i h
    obtain ⟨⟨⟨b1, b2, b3⟩, b4, b5⟩, h0⟩ := h0
    simp (config := { maxSteps := 2000000 }) only [go_sem, hG, hP, Nat.reduceEqDiff, ↓reduceIte, reduceCtorEq, Nat.reduceAdd, Nat.reduceSub, Nat.reduceMul, Nat.reduceLT, Nat.reduceLeDiff, Int.reduceAdd, Int.reduceSub, Int.reduceMul, Int.reduceLT, Int.reduceLE, Int.reduceEq, Int.reduceNeg, Int.reduceNe, Int.reduceGE, Int.reduceGT, Nat.reduceBEq, Int.reduceToNat]
    refine loopI hE (fun k : Nat => ⟨[(0, .ptr 0 0), (1, .v (.int .i64 n)), (5, .v (.string (digD b i h k).1)), (6, .v (.int .i64 k))], [(0, .box [.rs .byte b, .v (.int .i64 (digD b i h k).2.1), .v (.int .i64 (digD b i h k).2.2)])], 1, Tryd.f67.ntmps⟩) (fun k => (k : Int) ≤ n) (fun k => n.toNat - k) ⟨0, b4, SubS.weak ?_⟩ ?_
    · simp (config := { maxSteps := 2000000 }) only [go_sem, hG, hP, Nat.reduceEqDiff, ↓reduceIte, reduceCtorEq, Nat.reduceAdd, Nat.reduceSub, Nat.reduceMul, Nat.reduceLT, Nat.reduceLeDiff, Int.reduceAdd, Int.reduceSub, Int.reduceMul, Int.reduceLT, Int.reduceLE, Int.reduceEq, Int.reduceNeg, Int.reduceNe, Int.reduceGE, Int.reduceGT, Nat.reduceBEq, Int.reduceToNat,  digD]
      all_goals simp
    · intro k hk
      dsimp only at hk ⊢
      obtain ⟨⟨c1, c2⟩, c3, c4⟩ := digD_bd (b := b) (i := i) (h := h) ⟨b1, b2⟩ k
      obtain ⟨⟨d1, d2⟩, d3, d4⟩ := digD_bd (b := b) (i := i) (h := h) ⟨b1, b2⟩ (k + 1)
      by_cases hk2 : (k : Int) < n
      · have e1 := eq_true hk2
        have hl7 : ∀ m : Nat, ([⟨#[49]⟩, ⟨#[50]⟩, ⟨#[48]⟩, ⟨#[57]⟩, ⟨#[49]⟩, ⟨#[50]⟩, ⟨#[35]⟩] : List ByteArray).getD m ⟨#[]⟩ = digL.getD m ⟨#[]⟩ := fun _ => rfl
        have hsz : ((digD b i h k).1 ++ digL.getD (belV b (digD b i h k).2.1 (digD b i h k).2.2 7).toNat ⟨#[]⟩).size = k + 1 := d3
        rw [ByteArray.size_append] at hsz
        simp (config := { maxSteps := 2000000 }) only [go_sem, hG, hP, Nat.reduceEqDiff, ↓reduceIte, reduceCtorEq, Nat.reduceAdd, Nat.reduceSub, Nat.reduceMul, Nat.reduceLT, Nat.reduceLeDiff, Int.reduceAdd, Int.reduceSub, Int.reduceMul, Int.reduceLT, Int.reduceLE, Int.reduceEq, Int.reduceNeg, Int.reduceNe, Int.reduceGE, Int.reduceGT, Nat.reduceBEq, Int.reduceToNat,  e1, spPickS_f, spPickS_t, spPickS_k, takeCR_eq, hl7]
        (try simp (disch := omega) only [wrap_id])
        repeat' (first | (refine And.intro ?_ ?_) | (with_reducible intro _))
        all_goals first
          | omega
          | (simp; done)
          | (refine Nat.le_trans (Nat.le_of_eq hsz) ?_; omega)
          | (refine ⟨k + 1, ⟨by omega, by omega⟩, SubS.weak ?_⟩
             simp (config := { maxSteps := 2000000 }) only [go_sem, hG, hP, Nat.reduceEqDiff, ↓reduceIte, reduceCtorEq, Nat.reduceAdd, Nat.reduceSub, Nat.reduceMul, Nat.reduceLT, Nat.reduceLeDiff, Int.reduceAdd, Int.reduceSub, Int.reduceMul, Int.reduceLT, Int.reduceLE, Int.reduceEq, Int.reduceNeg, Int.reduceNe, Int.reduceGE, Int.reduceGT, Nat.reduceBEq, Int.reduceToNat,  digD]
             all_goals first
               | rfl
               | (refine ⟨rfl, ?_⟩; repeat' (first | with_reducible rfl | (refine And.intro ?_ ?_) | (refine congrArg (Value.int _) ?_; omega) | omega))
               | (refine ⟨rfl, ?_, ?_⟩ <;> repeat' (first | with_reducible rfl | (refine And.intro ?_ ?_) | (refine congrArg (Value.int _) ?_; omega) | omega)))
          | skip
        skip
        done
      · have e1 := eq_false hk2
        have ek : n.toNat = k := by omega
        rw [ek] at h0
        simp (config := { maxSteps := 2000000 }) only [go_sem, hG, hP, Nat.reduceEqDiff, ↓reduceIte, reduceCtorEq, Nat.reduceAdd, Nat.reduceSub, Nat.reduceMul, Nat.reduceLT, Nat.reduceLeDiff, Int.reduceAdd, Int.reduceSub, Int.reduceMul, Int.reduceLT, Int.reduceLE, Int.reduceEq, Int.reduceNeg, Int.reduceNe, Int.reduceGE, Int.reduceGT, Nat.reduceBEq, Int.reduceToNat,  e1]
        refine ⟨_, _, _, ?_, h0⟩
        simp (config := { maxSteps := 2000000 }) only [go_sem, hG, hP, Nat.reduceEqDiff, ↓reduceIte, reduceCtorEq, Nat.reduceAdd, Nat.reduceSub, Nat.reduceMul, Nat.reduceLT, Nat.reduceLeDiff, Int.reduceAdd, Int.reduceSub, Int.reduceMul, Int.reduceLT, Int.reduceLE, Int.reduceEq, Int.reduceNeg, Int.reduceNe, Int.reduceGE, Int.reduceGT, Nat.reduceBEq, Int.reduceToNat]
        all_goals simp
  · exact h0.elim
def bytesP (b : List Int) : Prop := ∀ x ∈ b, 0 ≤ x ∧ x ≤ 255
theorem bytesP_get {b : List Int} (h : bytesP b) (k : Nat) : 0 ≤ b.getD k 0 ∧ b.getD k 0 ≤ 255 := by
  by_cases hk : k < b.length
  · rw [List.getD, List.getElem?_eq_getElem hk]
    exact h _ (List.getElem_mem hk)
  · rw [List.getD, List.getElem?_eq_none (by omega)]
    decide
def spAt : Spec := ⟨fun _ _ => [], fun args objs K => match args, objs with
  | [.rs .byte b, .v (.int .i64 k)], [] => ((0 ≤ k ∧ k ≤ 1000) ∧ b.length ≤ 1099511627776 ∧ bytesP b) ∧ ∀ x : Int, (0 ≤ x ∧ x ≤ 255) → K (.v (.int .i64 x)) [] 0
  | _, _ => False, false⟩
theorem spAt_t {L : Hp} {a : List AVal} : Spec.take spAt L a = [] := id rfl
theorem spAt_k : Spec.keep spAt = false := id rfl
theorem spAt_f {b} {k} {K : AVal → Hp → Nat → Prop} : Spec.f spAt ([.rs .byte b, .v (.int .i64 k)]) ([]) K = (((0 ≤ k ∧ k ≤ 1000) ∧ b.length ≤ 1099511627776 ∧ bytesP b) ∧ ∀ x : Int, (0 ≤ x ∧ x ≤ 255) → K (.v (.int .i64 x)) [] 0) := id rfl
theorem valid26 : Valid Tryd.prog 26 spAt := by
  refine validI (Γ := lk []) Tryd.func26 bod26 low26 res26 (good_of trivial) ?_
  intro E args objs K h hE hG hP
  simp only [spAt] at h
  split at h
  · refine ⟨by simp [Tryd.ntmps26], ?_⟩
    rename_i b k
    obtain ⟨⟨⟨k1, k2⟩, b1, b2⟩, h⟩ := h
    have hg := bytesP_get b2 k.toNat
    have hw : wr .i64 (b.getD k.toNat 0) = b.getD k.toNat 0 := wrap_id (by omega) (by omega)
    have hm : 0 ≤ (k * 7 + (b.length : Int)).tmod 256 := Int.tmod_nonneg _ (by omega)
    have hm2 : (k * 7 + (b.length : Int)).tmod 256 < 256 := Int.tmod_lt_of_pos _ (by omega)
    simp (config := { maxSteps := 2000000 }) only [go_sem, hG, hP, Nat.reduceEqDiff, ↓reduceIte, reduceCtorEq, Nat.reduceAdd, Nat.reduceSub, Nat.reduceMul, Nat.reduceLT, Nat.reduceLeDiff, Int.reduceAdd, Int.reduceSub, Int.reduceMul, Int.reduceLT, Int.reduceLE, Int.reduceEq, Int.reduceNeg, Int.reduceNe, Int.reduceGE, Int.reduceGT, Nat.reduceBEq, Int.reduceToNat]
    (try simp (disch := omega) only [wrap_id])
    repeat' (first | (refine And.intro ?_ ?_) | (with_reducible intro _))
    all_goals first
      | omega
      | (refine ⟨_, _, _, ?_, h (b.getD k.toNat 0) (by omega)⟩; simp (config := { maxSteps := 2000000 }) only [go_sem, hG, hP, Nat.reduceEqDiff, ↓reduceIte, reduceCtorEq, Nat.reduceAdd, Nat.reduceSub, Nat.reduceMul, Nat.reduceLT, Nat.reduceLeDiff, Int.reduceAdd, Int.reduceSub, Int.reduceMul, Int.reduceLT, Int.reduceLE, Int.reduceEq, Int.reduceNeg, Int.reduceNe, Int.reduceGE, Int.reduceGT, Nat.reduceBEq, Int.reduceToNat,  hw]; done)
      | (refine ⟨_, _, _, ?_, h ((k * 7 + (b.length : Int)).tmod 256) (by omega)⟩; simp (config := { maxSteps := 2000000 }) only [go_sem, hG, hP, Nat.reduceEqDiff, ↓reduceIte, reduceCtorEq, Nat.reduceAdd, Nat.reduceSub, Nat.reduceMul, Nat.reduceLT, Nat.reduceLeDiff, Int.reduceAdd, Int.reduceSub, Int.reduceMul, Int.reduceLT, Int.reduceLE, Int.reduceEq, Int.reduceNeg, Int.reduceNe, Int.reduceGE, Int.reduceGT, Nat.reduceBEq, Int.reduceToNat]; done)
      | skip
    skip
    done
  · exact h.elim
end Go.Proofs.YthghcialeghgoaaDoorE

/-! The code of a function, in the engine's words. -/
namespace Go.Proofs.YthghcialeghgoaaDoorE
open Go Go.RowKit
@[reducible] def ic21 : IC := (.seq (.ops [⟨some 2, .mov (.const (.slice none 0 0)), none⟩, ⟨some 3, .mov (.const (.string ⟨#[]⟩)), none⟩]) (.seq (.ops [⟨some 8, .mov (.tmp 0), none⟩, ⟨some 9, .call 43 [(.tmp 8)], none⟩, ⟨some 4, .mov (.tmp 9), none⟩]) (.seq (.ops [⟨some 10, .blds .str 6 [(0, 1, (.const (.string ⟨#[49]⟩))), (1, 1, (.const (.string ⟨#[50]⟩))), (2, 1, (.const (.string ⟨#[49, 50]⟩))), (3, 1, (.const (.string ⟨#[57]⟩))), (4, 1, (.const (.string ⟨#[57, 48]⟩))), (5, 1, (.const (.string ⟨#[57, 49]⟩)))], none⟩, ⟨some 5, .mov (.tmp 10), none⟩]) (.seq (.ops [⟨some 11, .blds .prt 0 [], none⟩, ⟨some 6, .mov (.tmp 11), none⟩]) (.seq (.seq (.ops [⟨some 7, .mov (.const (.int .i64 0)), none⟩]) (.block 0 (.loop (.seq (.seq (.ops [⟨some 12, .mov (.tmp 7), none⟩, ⟨some 13, .mov (.tmp 5), none⟩, ⟨some 14, .len (.tmp 13), none⟩, ⟨some 15, .bin .lss (.tmp 12) (.tmp 14), none⟩]) (.cond (.tmp 15) .skip (.exit 0))) (.seq (.block 1 (.seq (.ops [⟨some 18, .mov (.tmp 4), none⟩, ⟨some 19, .call 44 [(.tmp 18), (.const (.int .i64 2))], none⟩]) (.cond (.tmp 19) (.draw [⟨some 20, .mov (.tmp 6), none⟩, ⟨some 21, .mov (.tmp 5), none⟩, ⟨some 22, .mov (.tmp 7), none⟩, ⟨some 23, .iadr 1 (.tmp 21) (.tmp 22), none⟩, ⟨some 24, .load 1 false (.tmp 23), none⟩, ⟨some 25, .mov (.tmp 4), none⟩, ⟨some 26, .blds .str 2 [(0, 1, (.const (.string ⟨#[55]⟩))), (1, 1, (.const (.string ⟨#[55, 48]⟩)))], none⟩, ⟨some 27, .mov (.tmp 5), none⟩, ⟨some 28, .app .str 16 (.tmp 26) (.tmp 27), none⟩, ⟨some 29, .call 45 [(.tmp 25), (.tmp 28)], none⟩, ⟨some 30, .bld [(.string ⟨#[]⟩), (.string ⟨#[]⟩)] [(0, 1, (.tmp 24)), (1, 1, (.tmp 29))], none⟩, ⟨some 31, .blds .prt 1 [(0, 2, (.tmp 30))], none⟩, ⟨some 32, .app .prt 32 (.tmp 20) (.tmp 31), none⟩, ⟨some 6, .mov (.tmp 32), none⟩] (.held ⟨some 20, .mov (.tmp 6), none⟩ (.held ⟨some 21, .mov (.tmp 5), none⟩ (.held ⟨some 22, .mov (.tmp 7), none⟩ (.held ⟨some 23, .iadr 1 (.tmp 21) (.tmp 22), none⟩ (.held ⟨some 25, .mov (.tmp 4), none⟩ (.held ⟨some 27, .mov (.tmp 5), none⟩ (.alt ⟨some 24, .load 1 false (.tmp 23), none⟩ (.alt ⟨some 26, .blds .str 2 [(0, 1, (.const (.string ⟨#[55]⟩))), (1, 1, (.const (.string ⟨#[55, 48]⟩)))], none⟩ (.alt ⟨some 28, .app .str 16 (.tmp 26) (.tmp 27), none⟩ (.alt ⟨some 29, .call 45 [(.tmp 25), (.tmp 28)], none⟩ (.held ⟨some 30, .bld [(.string ⟨#[]⟩), (.string ⟨#[]⟩)] [(0, 1, (.tmp 24)), (1, 1, (.tmp 29))], none⟩ (.alt ⟨some 31, .blds .prt 1 [(0, 2, (.tmp 30))], none⟩ (.alt ⟨some 32, .app .prt 32 (.tmp 20) (.tmp 31), none⟩ (.held ⟨some 6, .mov (.tmp 32), none⟩ .done) .stop) .stop)) .stop) .stop) .stop) (.alt ⟨some 26, .blds .str 2 [(0, 1, (.const (.string ⟨#[55]⟩))), (1, 1, (.const (.string ⟨#[55, 48]⟩)))], none⟩ (.alt ⟨some 24, .load 1 false (.tmp 23), none⟩ (.alt ⟨some 28, .app .str 16 (.tmp 26) (.tmp 27), none⟩ (.alt ⟨some 29, .call 45 [(.tmp 25), (.tmp 28)], none⟩ (.held ⟨some 30, .bld [(.string ⟨#[]⟩), (.string ⟨#[]⟩)] [(0, 1, (.tmp 24)), (1, 1, (.tmp 29))], none⟩ (.alt ⟨some 31, .blds .prt 1 [(0, 2, (.tmp 30))], none⟩ (.alt ⟨some 32, .app .prt 32 (.tmp 20) (.tmp 31), none⟩ (.held ⟨some 6, .mov (.tmp 32), none⟩ .done) .stop) .stop)) .stop) .stop) (.alt ⟨some 28, .app .str 16 (.tmp 26) (.tmp 27), none⟩ (.alt ⟨some 24, .load 1 false (.tmp 23), none⟩ (.alt ⟨some 29, .call 45 [(.tmp 25), (.tmp 28)], none⟩ (.held ⟨some 30, .bld [(.string ⟨#[]⟩), (.string ⟨#[]⟩)] [(0, 1, (.tmp 24)), (1, 1, (.tmp 29))], none⟩ (.alt ⟨some 31, .blds .prt 1 [(0, 2, (.tmp 30))], none⟩ (.alt ⟨some 32, .app .prt 32 (.tmp 20) (.tmp 31), none⟩ (.held ⟨some 6, .mov (.tmp 32), none⟩ .done) .stop) .stop)) .stop) (.alt ⟨some 29, .call 45 [(.tmp 25), (.tmp 28)], none⟩ (.held ⟨some 24, .load 1 false (.tmp 23), none⟩ (.held ⟨some 30, .bld [(.string ⟨#[]⟩), (.string ⟨#[]⟩)] [(0, 1, (.tmp 24)), (1, 1, (.tmp 29))], none⟩ (.alt ⟨some 31, .blds .prt 1 [(0, 2, (.tmp 30))], none⟩ (.alt ⟨some 32, .app .prt 32 (.tmp 20) (.tmp 31), none⟩ (.held ⟨some 6, .mov (.tmp 32), none⟩ .done) .stop) .stop))) .stop)) .stop)) .stop))))))))) .skip))) (.ops [⟨some 16, .mov (.tmp 7), none⟩, ⟨some 17, .bin .add (.tmp 16) (.const (.int .i64 1)), none⟩, ⟨some 7, .mov (.tmp 17), none⟩])))))) (.seq (.seq (.ops [⟨some 33, .mov (.tmp 4), none⟩, ⟨some 34, .call 46 [(.tmp 33), (.const (.int .i64 20))], none⟩]) (.block 2 (.seq (.ops [⟨some 36, .bin .eql (.tmp 34) (.const (.int .i64 0)), none⟩, ⟨some 35, .mov (.tmp 36), none⟩]) (.cond (.tmp 35) (.ops [⟨some 37, .mov (.tmp 6), none⟩, ⟨some 38, .mov (.tmp 4), none⟩, ⟨some 39, .blds .str 3 [(0, 1, (.const (.string ⟨#[]⟩))), (1, 1, (.const (.string ⟨#[120]⟩))), (2, 1, (.const (.string ⟨#[49]⟩)))], none⟩, ⟨some 40, .call 45 [(.tmp 38), (.tmp 39)], none⟩, ⟨some 41, .mov (.tmp 4), none⟩, ⟨some 42, .blds .str 3 [(0, 1, (.const (.string ⟨#[]⟩))), (1, 1, (.const (.string ⟨#[121]⟩))), (2, 1, (.const (.string ⟨#[49]⟩)))], none⟩, ⟨some 43, .call 45 [(.tmp 41), (.tmp 42)], none⟩, ⟨some 44, .bld [(.string ⟨#[]⟩), (.string ⟨#[]⟩)] [(0, 1, (.tmp 40)), (1, 1, (.tmp 43))], none⟩, ⟨some 45, .blds .prt 1 [(0, 2, (.tmp 44))], none⟩, ⟨some 46, .app .prt 32 (.tmp 37) (.tmp 45), none⟩, ⟨some 6, .mov (.tmp 46), none⟩]) (.seq (.ops [⟨some 48, .bin .eql (.tmp 34) (.const (.int .i64 1)), none⟩, ⟨some 47, .mov (.tmp 48), none⟩]) (.cond (.tmp 47) (.ops [⟨some 49, .mov (.tmp 6), none⟩, ⟨some 50, .mov (.tmp 6), none⟩, ⟨some 51, .app .prt 32 (.tmp 49) (.tmp 50), none⟩, ⟨some 6, .mov (.tmp 51), none⟩]) .skip)))))) (.seq (.ops [⟨some 52, .mov (.tmp 6), none⟩, ⟨some 53, .mov (.tmp 4), none⟩, ⟨some 54, .blds .str 3 [(0, 1, (.const (.string ⟨#[]⟩))), (1, 1, (.const (.string ⟨#[120]⟩))), (2, 1, (.const (.string ⟨#[53]⟩)))], none⟩, ⟨some 55, .mov (.tmp 5), none⟩, ⟨some 56, .app .str 16 (.tmp 54) (.tmp 55), none⟩, ⟨some 57, .call 45 [(.tmp 53), (.tmp 56)], none⟩, ⟨some 2, .mov (.tmp 52), none⟩, ⟨some 3, .mov (.tmp 57), none⟩]) .ret)))))))
@[reducible] def rv21 : List RV := [.tmp 2, .tmp 3]
theorem low21 : lowC Tryd.prog tau Tryd.f21.ntmps (Tryd.f21.body.getD .skip) = some (erase ic21) := by kernel_rfl
theorem res21 : lowR Tryd.prog Tryd.f21.results.toList = some rv21 := by kernel_rfl
theorem bod21 : Tryd.f21.body = some (Tryd.f21.body.getD .skip) := by kernel_rfl
theorem cal21 : callable Tryd.prog 21 = true := by kernel_rfl

end Go.Proofs.YthghcialeghgoaaDoorE

/-! The code of a function, in the engine's words. -/
namespace Go.Proofs.YthghcialeghgoaaDoorE
open Go Go.RowKit
@[reducible] def ic25 : IC := (.seq (.ops [⟨some 2, .mov (.const (.slice none 0 0)), none⟩, ⟨some 3, .mov (.const (.string ⟨#[]⟩)), none⟩]) (.seq (.ops [⟨some 6, .mov (.tmp 0), none⟩, ⟨some 7, .call 43 [(.tmp 6)], none⟩, ⟨some 4, .mov (.tmp 7), none⟩]) (.seq (.ops [⟨some 8, .mov (.tmp 4), none⟩, ⟨some 9, .call 53 [(.tmp 8)], none⟩, ⟨some 5, .mov (.tmp 9), none⟩]) (.seq (.ops [⟨some 10, .mov (.tmp 5), none⟩, ⟨some 11, .mov (.tmp 4), none⟩, ⟨some 12, .mov (.tmp 5), none⟩, ⟨some 13, .call 54 [(.tmp 11), (.tmp 12)], none⟩, ⟨some 2, .mov (.tmp 10), none⟩, ⟨some 3, .mov (.tmp 13), none⟩]) .ret))))
@[reducible] def rv25 : List RV := [.tmp 2, .tmp 3]
theorem low25 : lowC Tryd.prog tau Tryd.f25.ntmps (Tryd.f25.body.getD .skip) = some (erase ic25) := by kernel_rfl
theorem res25 : lowR Tryd.prog Tryd.f25.results.toList = some rv25 := by kernel_rfl
theorem bod25 : Tryd.f25.body = some (Tryd.f25.body.getD .skip) := by kernel_rfl
theorem cal25 : callable Tryd.prog 25 = true := by kernel_rfl

end Go.Proofs.YthghcialeghgoaaDoorE

/-! The code of a function, in the engine's words. -/
namespace Go.Proofs.YthghcialeghgoaaDoorE
open Go Go.RowKit
@[reducible] def ic27 : IC := (.seq (.ops [⟨some 2, .mov (.const (.slice none 0 0)), none⟩, ⟨some 3, .mov (.const (.slice none 0 0)), none⟩, ⟨some 4, .mov (.const (.int .i64 0)), none⟩]) (.seq (.ops [⟨some 11, .mov (.tmp 0), none⟩, ⟨some 12, .call 43 [(.tmp 11)], none⟩, ⟨some 5, .mov (.tmp 12), none⟩]) (.seq (.ops [⟨some 13, .mov (.tmp 5), none⟩, ⟨some 14, .call 53 [(.tmp 13)], none⟩, ⟨some 6, .mov (.tmp 14), none⟩]) (.seq (.ops [⟨some 15, .mov (.tmp 5), none⟩, ⟨some 16, .mov (.tmp 6), none⟩, ⟨some 17, .call 54 [(.tmp 15), (.tmp 16)], none⟩, ⟨some 7, .mov (.tmp 17), none⟩]) (.seq (.ops [⟨some 18, .blds .prs 0 [], none⟩, ⟨some 8, .mov (.tmp 18), none⟩]) (.seq (.ops [⟨some 19, .mov (.tmp 5), none⟩, ⟨some 20, .call 46 [(.tmp 19), (.const (.int .i64 50))], none⟩, ⟨some 9, .mov (.tmp 20), none⟩]) (.seq (.seq (.ops [⟨some 10, .mov (.const (.int .i64 0)), none⟩]) (.block 0 (.loop (.seq (.seq (.ops [⟨some 21, .mov (.tmp 10), none⟩, ⟨some 22, .mov (.tmp 7), none⟩, ⟨some 23, .slen (.tmp 22), none⟩, ⟨some 24, .bin .lss (.tmp 21) (.tmp 23), none⟩]) (.cond (.tmp 24) .skip (.exit 0))) (.seq (.block 1 (.seq (.ops [⟨some 27, .mov (.tmp 8), none⟩, ⟨some 28, .mov (.tmp 9), none⟩, ⟨some 29, .mov (.tmp 7), none⟩, ⟨some 30, .mov (.tmp 10), none⟩, ⟨some 31, .mov (.tmp 10), none⟩, ⟨some 32, .bin .add (.tmp 31) (.const (.int .i64 1)), none⟩, ⟨some 33, .sslc (.tmp 29) (some (.tmp 30)) (some (.tmp 32)), none⟩, ⟨some 34, .bld [(.int .i64 0), (.string ⟨#[]⟩)] [(0, 1, (.tmp 28)), (1, 1, (.tmp 33))], none⟩, ⟨some 35, .blds .prs 1 [(0, 2, (.tmp 34))], none⟩, ⟨some 36, .app .prs 24 (.tmp 27) (.tmp 35), none⟩, ⟨some 8, .mov (.tmp 36), none⟩]) (.ops [⟨some 37, .mov (.tmp 9), none⟩, ⟨some 38, .mov (.tmp 5), none⟩, ⟨some 39, .call 46 [(.tmp 38), (.const (.int .i64 12))], none⟩, ⟨some 40, .bin .add (.tmp 37) (.tmp 39), none⟩, ⟨some 9, .mov (.tmp 40), none⟩]))) (.ops [⟨some 25, .mov (.tmp 10), none⟩, ⟨some 26, .bin .add (.tmp 25) (.const (.int .i64 1)), none⟩, ⟨some 10, .mov (.tmp 26), none⟩])))))) (.seq (.seq (.ops [⟨some 41, .mov (.tmp 5), none⟩, ⟨some 42, .call 44 [(.tmp 41), (.const (.int .i64 30))], none⟩, ⟨some 43, .mov (.tmp 42), none⟩, ⟨some 44, .mov (.tmp 8), some (43, true)⟩, ⟨some 45, .len (.tmp 44), some (43, true)⟩, ⟨some 46, .bin .gtr (.tmp 45) (.const (.int .i64 0)), some (43, true)⟩, ⟨some 47, .pick (.tmp 43) (.tmp 46) (.const (.bool false)), none⟩]) (.cond (.tmp 47) (.ops [⟨some 48, .mov (.tmp 8), none⟩, ⟨some 49, .mov (.tmp 5), none⟩, ⟨some 50, .blds .int 3 [(0, 1, (.const (.int .i64 (-1)))), (1, 1, (.const (.int .i64 1000000000))), (2, 1, (.const (.int .i64 1000000001)))], none⟩, ⟨some 51, .call 55 [(.tmp 49), (.tmp 50)], none⟩, ⟨some 52, .iadr 2 (.tmp 48) (.const (.int .i64 0)), none⟩, ⟨some 53, .fadr 0 (.tmp 52), none⟩, ⟨none, .store 1 (.tmp 53) (.tmp 51), none⟩]) .skip)) (.seq (.ops [⟨some 54, .mov (.tmp 6), none⟩, ⟨some 55, .mov (.tmp 8), none⟩, ⟨some 56, .mov (.tmp 5), none⟩, ⟨some 57, .blds .int 8 [(0, 1, (.const (.int .i64 5))), (1, 1, (.const (.int .i64 9))), (2, 1, (.const (.int .i64 10))), (3, 1, (.const (.int .i64 20))), (4, 1, (.const (.int .i64 1000))), (5, 1, (.const (.int .i64 0))), (6, 1, (.const (.int .i64 1001))), (7, 1, (.const (.int .i64 11)))], none⟩, ⟨some 58, .call 55 [(.tmp 56), (.tmp 57)], none⟩, ⟨some 2, .mov (.tmp 54), none⟩, ⟨some 3, .mov (.tmp 55), none⟩, ⟨some 4, .mov (.tmp 58), none⟩]) .ret)))))))))
@[reducible] def rv27 : List RV := [.tmp 2, .tmp 3, .tmp 4]
theorem low27 : lowC Tryd.prog tau Tryd.f27.ntmps (Tryd.f27.body.getD .skip) = some (erase ic27) := by kernel_rfl
theorem res27 : lowR Tryd.prog Tryd.f27.results.toList = some rv27 := by kernel_rfl
theorem bod27 : Tryd.f27.body = some (Tryd.f27.body.getD .skip) := by kernel_rfl
theorem cal27 : callable Tryd.prog 27 = true := by kernel_rfl

end Go.Proofs.YthghcialeghgoaaDoorE

/-! The code of a function, in the engine's words. -/
namespace Go.Proofs.YthghcialeghgoaaDoorE
open Go Go.RowKit
@[reducible] def ic53 : IC := (.seq (.ops [⟨some 2, .mov (.const (.slice none 0 0)), none⟩]) (.seq (.ops [⟨some 5, .mov (.tmp 0), none⟩, ⟨some 6, .call 66 [(.tmp 5)], none⟩, ⟨some 3, .mov (.tmp 6), none⟩]) (.seq (.seq (.ops [⟨some 7, .mov (.tmp 3), none⟩, ⟨some 8, .len (.tmp 7), none⟩, ⟨some 9, .bin .eql (.tmp 8) (.const (.int .i64 0)), none⟩, ⟨some 10, .mov (.tmp 9), none⟩, ⟨some 11, .mov (.tmp 0), some (10, false)⟩, ⟨some 12, .call 44 [(.tmp 11), (.const (.int .i64 12))], some (10, false)⟩, ⟨some 13, .una .not (.tmp 12), some (10, false)⟩, ⟨some 14, .pick (.tmp 10) (.const (.bool true)) (.tmp 13), none⟩]) (.cond (.tmp 14) (.seq (.ops [⟨some 15, .mov (.tmp 3), none⟩, ⟨some 2, .mov (.tmp 15), none⟩]) .ret) .skip)) (.seq (.ops [⟨some 16, .mov (.tmp 3), none⟩, ⟨some 17, .mov (.tmp 0), none⟩, ⟨some 18, .mov (.tmp 3), none⟩, ⟨some 19, .len (.tmp 18), none⟩, ⟨some 20, .call 46 [(.tmp 17), (.tmp 19)], none⟩, ⟨some 21, .iadr 6 (.tmp 16) (.tmp 20), none⟩, ⟨some 4, .mov (.tmp 21), none⟩]) (.seq (.seq (.ops [⟨some 22, .mov (.tmp 0), none⟩, ⟨some 23, .call 46 [(.tmp 22), (.const (.int .i64 6))], none⟩]) (.block 0 (.seq (.ops [⟨some 25, .bin .eql (.tmp 23) (.const (.int .i64 0)), none⟩, ⟨some 24, .mov (.tmp 25), none⟩]) (.cond (.tmp 24) (.ops [⟨some 26, .mov (.tmp 4), none⟩, ⟨some 27, .mov (.tmp 0), none⟩, ⟨some 28, .blds .str 4 [(0, 1, (.const (.string ⟨#[]⟩))), (1, 1, (.const (.string ⟨#[97]⟩))), (2, 1, (.const (.string ⟨#[49]⟩))), (3, 1, (.const (.string ⟨#[49, 50, 51, 52, 53, 54, 55, 56, 57, 48, 49, 50, 51, 52, 53, 54, 55, 56, 57, 48, 49]⟩)))], none⟩, ⟨some 29, .call 45 [(.tmp 27), (.tmp 28)], none⟩, ⟨some 30, .nilc (.tmp 26), none⟩, ⟨some 31, .fadr 0 (.tmp 30), none⟩, ⟨none, .store 1 (.tmp 31) (.tmp 29), none⟩]) (.seq (.ops [⟨some 33, .bin .eql (.tmp 23) (.const (.int .i64 1)), none⟩, ⟨some 32, .mov (.tmp 33), none⟩]) (.cond (.tmp 32) (.ops [⟨some 34, .mov (.tmp 4), none⟩, ⟨some 35, .mov (.tmp 0), none⟩, ⟨some 36, .blds .int 3 [(0, 1, (.const (.int .i64 0))), (1, 1, (.const (.int .i64 20))), (2, 1, (.const (.int .i64 21)))], none⟩, ⟨some 37, .call 55 [(.tmp 35), (.tmp 36)], none⟩, ⟨some 38, .nilc (.tmp 34), none⟩, ⟨some 39, .fadr 1 (.tmp 38), none⟩, ⟨none, .store 1 (.tmp 39) (.tmp 37), none⟩]) (.seq (.ops [⟨some 41, .bin .eql (.tmp 23) (.const (.int .i64 2)), none⟩, ⟨some 40, .mov (.tmp 41), none⟩]) (.cond (.tmp 40) (.ops [⟨some 42, .mov (.tmp 4), none⟩, ⟨some 43, .mov (.tmp 0), none⟩, ⟨some 44, .blds .int 3 [(0, 1, (.const (.int .i64 0))), (1, 1, (.const (.int .i64 20))), (2, 1, (.const (.int .i64 21)))], none⟩, ⟨some 45, .call 55 [(.tmp 43), (.tmp 44)], none⟩, ⟨some 46, .nilc (.tmp 42), none⟩, ⟨some 47, .fadr 2 (.tmp 46), none⟩, ⟨none, .store 1 (.tmp 47) (.tmp 45), none⟩]) (.seq (.ops [⟨some 49, .bin .eql (.tmp 23) (.const (.int .i64 3)), none⟩, ⟨some 48, .mov (.tmp 49), none⟩]) (.cond (.tmp 48) (.ops [⟨some 50, .mov (.tmp 4), none⟩, ⟨some 51, .mov (.tmp 0), none⟩, ⟨some 52, .blds .int 3 [(0, 1, (.const (.int .i64 (-1)))), (1, 1, (.const (.int .i64 1000))), (2, 1, (.const (.int .i64 1001)))], none⟩, ⟨some 53, .call 55 [(.tmp 51), (.tmp 52)], none⟩, ⟨some 54, .nilc (.tmp 50), none⟩, ⟨some 55, .fadr 3 (.tmp 54), none⟩, ⟨none, .store 1 (.tmp 55) (.tmp 53), none⟩]) (.seq (.ops [⟨some 57, .bin .eql (.tmp 23) (.const (.int .i64 4)), none⟩, ⟨some 56, .mov (.tmp 57), none⟩]) (.cond (.tmp 56) (.ops [⟨some 58, .mov (.tmp 4), none⟩, ⟨some 59, .mov (.tmp 0), none⟩, ⟨some 60, .blds .int 2 [(0, 1, (.const (.int .i64 (-1)))), (1, 1, (.const (.int .i64 9)))], none⟩, ⟨some 61, .call 55 [(.tmp 59), (.tmp 60)], none⟩, ⟨some 62, .nilc (.tmp 58), none⟩, ⟨some 63, .fadr 4 (.tmp 62), none⟩, ⟨none, .store 1 (.tmp 63) (.tmp 61), none⟩]) (.seq (.ops [⟨some 65, .bin .eql (.tmp 23) (.const (.int .i64 5)), none⟩, ⟨some 64, .mov (.tmp 65), none⟩]) (.cond (.tmp 64) (.ops [⟨some 66, .mov (.tmp 4), none⟩, ⟨some 67, .mov (.tmp 0), none⟩, ⟨some 68, .blds .str 2 [(0, 1, (.const (.string ⟨#[120]⟩))), (1, 1, (.const (.string ⟨#[49, 50, 51, 52, 53, 54, 55, 56, 57, 48, 49, 50, 51, 52, 53, 54, 55, 56, 57, 48]⟩)))], none⟩, ⟨some 69, .call 45 [(.tmp 67), (.tmp 68)], none⟩, ⟨some 70, .nilc (.tmp 66), none⟩, ⟨some 71, .fadr 5 (.tmp 70), none⟩, ⟨none, .store 1 (.tmp 71) (.tmp 69), none⟩]) .skip)))))))))))))) (.seq (.ops [⟨some 72, .mov (.tmp 3), none⟩, ⟨some 2, .mov (.tmp 72), none⟩]) .ret))))))
@[reducible] def rv53 : List RV := [.tmp 2]
theorem low53 : lowC Tryd.prog tau Tryd.f53.ntmps (Tryd.f53.body.getD .skip) = some (erase ic53) := by kernel_rfl
theorem res53 : lowR Tryd.prog Tryd.f53.results.toList = some rv53 := by kernel_rfl
theorem bod53 : Tryd.f53.body = some (Tryd.f53.body.getD .skip) := by kernel_rfl
theorem cal53 : callable Tryd.prog 53 = true := by kernel_rfl

end Go.Proofs.YthghcialeghgoaaDoorE

/-! The code of a function, in the engine's words. -/
namespace Go.Proofs.YthghcialeghgoaaDoorE
open Go Go.RowKit
@[reducible] def ic54 : IC := (.seq (.ops [⟨some 4, .mov (.const (.string ⟨#[]⟩)), none⟩]) (.seq (.ops [⟨some 6, .mov (.tmp 0), none⟩, ⟨some 7, .mov (.tmp 0), none⟩, ⟨some 8, .call 46 [(.tmp 7), (.const (.int .i64 8))], none⟩, ⟨some 9, .call 67 [(.tmp 6), (.tmp 8)], none⟩, ⟨some 5, .mov (.tmp 9), none⟩]) (.seq (.seq (.ops [⟨some 10, .mov (.tmp 1), none⟩, ⟨some 11, .len (.tmp 10), none⟩, ⟨some 12, .bin .gtr (.tmp 11) (.const (.int .i64 0)), none⟩, ⟨some 13, .mov (.tmp 12), none⟩, ⟨some 14, .mov (.tmp 0), some (13, true)⟩, ⟨some 15, .call 44 [(.tmp 14), (.const (.int .i64 3))], some (13, true)⟩, ⟨some 16, .una .not (.tmp 15), some (13, true)⟩, ⟨some 17, .pick (.tmp 13) (.tmp 16) (.const (.bool false)), none⟩]) (.cond (.tmp 17) (.draw [⟨some 18, .mov (.tmp 1), none⟩, ⟨some 19, .mov (.tmp 0), none⟩, ⟨some 20, .mov (.tmp 1), none⟩, ⟨some 21, .len (.tmp 20), none⟩, ⟨some 22, .call 46 [(.tmp 19), (.tmp 21)], none⟩, ⟨some 23, .iadr 6 (.tmp 18) (.tmp 22), none⟩, ⟨some 24, .fadr 0 (.tmp 23), none⟩, ⟨some 25, .load 1 false (.tmp 24), none⟩, ⟨some 26, .mov (.tmp 0), none⟩, ⟨some 27, .mov (.tmp 0), none⟩, ⟨some 28, .call 46 [(.tmp 27), (.const (.int .i64 6))], none⟩, ⟨some 29, .call 67 [(.tmp 26), (.tmp 28)], none⟩, ⟨some 30, .bin .add (.tmp 25) (.tmp 29), none⟩, ⟨some 5, .mov (.tmp 30), none⟩] (.held ⟨some 18, .mov (.tmp 1), none⟩ (.held ⟨some 19, .mov (.tmp 0), none⟩ (.held ⟨some 20, .mov (.tmp 1), none⟩ (.held ⟨some 21, .len (.tmp 20), none⟩ (.held ⟨some 26, .mov (.tmp 0), none⟩ (.held ⟨some 27, .mov (.tmp 0), none⟩ (.alt ⟨some 22, .call 46 [(.tmp 19), (.tmp 21)], none⟩ (.held ⟨some 23, .iadr 6 (.tmp 18) (.tmp 22), none⟩ (.held ⟨some 24, .fadr 0 (.tmp 23), none⟩ (.alt ⟨some 25, .load 1 false (.tmp 24), none⟩ (.alt ⟨some 28, .call 46 [(.tmp 27), (.const (.int .i64 6))], none⟩ (.alt ⟨some 29, .call 67 [(.tmp 26), (.tmp 28)], none⟩ (.held ⟨some 30, .bin .add (.tmp 25) (.tmp 29), none⟩ (.held ⟨some 5, .mov (.tmp 30), none⟩ .done)) .stop) .stop) (.alt ⟨some 28, .call 46 [(.tmp 27), (.const (.int .i64 6))], none⟩ (.alt ⟨some 25, .load 1 false (.tmp 24), none⟩ (.alt ⟨some 29, .call 67 [(.tmp 26), (.tmp 28)], none⟩ (.held ⟨some 30, .bin .add (.tmp 25) (.tmp 29), none⟩ (.held ⟨some 5, .mov (.tmp 30), none⟩ .done)) .stop) (.alt ⟨some 29, .call 67 [(.tmp 26), (.tmp 28)], none⟩ (.held ⟨some 25, .load 1 false (.tmp 24), none⟩ (.held ⟨some 30, .bin .add (.tmp 25) (.tmp 29), none⟩ (.held ⟨some 5, .mov (.tmp 30), none⟩ .done))) .stop)) .stop)))) .stop)))))))) .skip)) (.seq (.seq (.ops [⟨some 31, .mov (.tmp 0), none⟩, ⟨some 32, .call 44 [(.tmp 31), (.const (.int .i64 30))], none⟩]) (.cond (.tmp 32) (.ops [⟨some 33, .mov (.tmp 5), none⟩, ⟨some 34, .mov (.tmp 0), none⟩, ⟨some 35, .blds .str 3 [(0, 1, (.const (.string ⟨#[120]⟩))), (1, 1, (.const (.string ⟨#[45]⟩))), (2, 1, (.const (.string ⟨#[49, 50, 51, 52, 53, 54, 55, 56, 57, 48, 49, 50, 51, 52, 53, 54, 55, 56, 57, 48]⟩)))], none⟩, ⟨some 36, .call 45 [(.tmp 34), (.tmp 35)], none⟩, ⟨some 37, .bin .add (.tmp 33) (.tmp 36), none⟩, ⟨some 5, .mov (.tmp 37), none⟩]) .skip)) (.seq (.ops [⟨some 38, .mov (.tmp 5), none⟩, ⟨some 4, .mov (.tmp 38), none⟩]) .ret)))))
@[reducible] def rv54 : List RV := [.tmp 4]
theorem low54 : lowC Tryd.prog tau Tryd.f54.ntmps (Tryd.f54.body.getD .skip) = some (erase ic54) := by kernel_rfl
theorem res54 : lowR Tryd.prog Tryd.f54.results.toList = some rv54 := by kernel_rfl
theorem bod54 : Tryd.f54.body = some (Tryd.f54.body.getD .skip) := by kernel_rfl
theorem cal54 : callable Tryd.prog 54 = true := by kernel_rfl

end Go.Proofs.YthghcialeghgoaaDoorE

/-! The code of a function, in the engine's words. -/
namespace Go.Proofs.YthghcialeghgoaaDoorE
open Go Go.RowKit
@[reducible] def ic66 : IC := (.seq (.ops [⟨some 2, .mov (.const (.slice none 0 0)), none⟩]) (.seq (.ops [⟨some 6, .blds .rule 0 [], none⟩, ⟨some 3, .mov (.tmp 6), none⟩]) (.seq (.seq (.ops [⟨some 7, .mov (.tmp 0), none⟩, ⟨some 8, .call 46 [(.tmp 7), (.const (.int .i64 8))], none⟩, ⟨some 4, .mov (.tmp 8), none⟩]) (.block 0 (.loop (.seq (.seq (.ops [⟨some 9, .mov (.tmp 4), none⟩, ⟨some 10, .bin .gtr (.tmp 9) (.const (.int .i64 0)), none⟩]) (.cond (.tmp 10) .skip (.exit 0))) (.seq (.block 1 (.seq (.ops [⟨some 13, .mov (.tmp 0), none⟩, ⟨some 14, .mov (.tmp 0), none⟩, ⟨some 15, .call 46 [(.tmp 14), (.const (.int .i64 3))], none⟩, ⟨some 16, .bin .add (.const (.int .i64 1)) (.tmp 15), none⟩, ⟨some 17, .call 67 [(.tmp 13), (.tmp 16)], none⟩, ⟨some 18, .mov (.tmp 0), none⟩, ⟨some 19, .call 46 [(.tmp 18), (.const (.int .i64 5))], none⟩, ⟨some 20, .bld [(.string ⟨#[]⟩), (.int .i64 0), (.int .i64 0), (.int .i64 0), (.int .i64 0), (.string ⟨#[]⟩)] [(0, 1, (.tmp 17)), (3, 1, (.tmp 19))], none⟩, ⟨some 5, .new [(.string ⟨#[]⟩), (.int .i64 0), (.int .i64 0), (.int .i64 0), (.int .i64 0), (.string ⟨#[]⟩)], none⟩, ⟨none, .store 6 (.tmp 5) (.tmp 20), none⟩]) (.seq (.draw [⟨some 21, .fadr 0 (.tmp 5), none⟩, ⟨some 22, .load 1 false (.tmp 21), none⟩, ⟨some 23, .slen (.tmp 22), none⟩, ⟨some 24, .mov (.tmp 0), none⟩, ⟨some 25, .call 46 [(.tmp 24), (.const (.int .i64 4))], none⟩, ⟨some 26, .bin .add (.tmp 23) (.tmp 25), none⟩, ⟨some 27, .fadr 1 (.tmp 5), none⟩, ⟨none, .store 1 (.tmp 27) (.tmp 26), none⟩] (.held ⟨some 21, .fadr 0 (.tmp 5), none⟩ (.held ⟨some 24, .mov (.tmp 0), none⟩ (.alt ⟨some 22, .load 1 false (.tmp 21), none⟩ (.held ⟨some 23, .slen (.tmp 22), none⟩ (.alt ⟨some 25, .call 46 [(.tmp 24), (.const (.int .i64 4))], none⟩ (.held ⟨some 26, .bin .add (.tmp 23) (.tmp 25), none⟩ (.held ⟨some 27, .fadr 1 (.tmp 5), none⟩ (.alt ⟨none, .store 1 (.tmp 27) (.tmp 26), none⟩ .done .stop))) .stop)) (.alt ⟨some 25, .call 46 [(.tmp 24), (.const (.int .i64 4))], none⟩ (.held ⟨some 22, .load 1 false (.tmp 21), none⟩ (.held ⟨some 23, .slen (.tmp 22), none⟩ (.held ⟨some 26, .bin .add (.tmp 23) (.tmp 25), none⟩ (.held ⟨some 27, .fadr 1 (.tmp 5), none⟩ (.alt ⟨none, .store 1 (.tmp 27) (.tmp 26), none⟩ .done .stop))))) .stop))))) (.seq (.draw [⟨some 28, .fadr 1 (.tmp 5), none⟩, ⟨some 29, .load 1 false (.tmp 28), none⟩, ⟨some 30, .mov (.tmp 0), none⟩, ⟨some 31, .call 46 [(.tmp 30), (.const (.int .i64 3))], none⟩, ⟨some 32, .bin .add (.tmp 29) (.tmp 31), none⟩, ⟨some 33, .fadr 2 (.tmp 5), none⟩, ⟨none, .store 1 (.tmp 33) (.tmp 32), none⟩] (.held ⟨some 28, .fadr 1 (.tmp 5), none⟩ (.held ⟨some 30, .mov (.tmp 0), none⟩ (.alt ⟨some 29, .load 1 false (.tmp 28), none⟩ (.alt ⟨some 31, .call 46 [(.tmp 30), (.const (.int .i64 3))], none⟩ (.held ⟨some 32, .bin .add (.tmp 29) (.tmp 31), none⟩ (.held ⟨some 33, .fadr 2 (.tmp 5), none⟩ (.alt ⟨none, .store 1 (.tmp 33) (.tmp 32), none⟩ .done .stop))) .stop) (.alt ⟨some 31, .call 46 [(.tmp 30), (.const (.int .i64 3))], none⟩ (.held ⟨some 29, .load 1 false (.tmp 28), none⟩ (.held ⟨some 32, .bin .add (.tmp 29) (.tmp 31), none⟩ (.held ⟨some 33, .fadr 2 (.tmp 5), none⟩ (.alt ⟨none, .store 1 (.tmp 33) (.tmp 32), none⟩ .done .stop)))) .stop))))) (.seq (.ops [⟨some 34, .mov (.tmp 0), none⟩, ⟨some 35, .fadr 1 (.tmp 5), none⟩, ⟨some 36, .load 1 false (.tmp 35), none⟩, ⟨some 37, .bin .add (.tmp 36) (.const (.int .i64 1)), none⟩, ⟨some 38, .call 46 [(.tmp 34), (.tmp 37)], none⟩, ⟨some 39, .fadr 4 (.tmp 5), none⟩, ⟨none, .store 1 (.tmp 39) (.tmp 38), none⟩]) (.seq (.ops [⟨some 40, .mov (.tmp 0), none⟩, ⟨some 41, .mov (.tmp 0), none⟩, ⟨some 42, .call 46 [(.tmp 41), (.const (.int .i64 3))], none⟩, ⟨some 43, .call 67 [(.tmp 40), (.tmp 42)], none⟩, ⟨some 44, .fadr 5 (.tmp 5), none⟩, ⟨none, .store 1 (.tmp 44) (.tmp 43), none⟩]) (.seq (.draw [⟨some 45, .blds .rule 0 [], none⟩, ⟨some 46, .mov (.tmp 3), none⟩, ⟨some 47, .app .rule 64 (.tmp 45) (.tmp 46), none⟩, ⟨some 48, .load 6 true (.tmp 5), none⟩, ⟨some 49, .blds .rule 1 [(0, 6, (.tmp 48))], none⟩, ⟨some 50, .app .rule 64 (.tmp 47) (.tmp 49), none⟩, ⟨some 51, .call 11 [(.tmp 50)], none⟩] (.held ⟨some 46, .mov (.tmp 3), none⟩ (.alt ⟨some 45, .blds .rule 0 [], none⟩ (.alt ⟨some 47, .app .rule 64 (.tmp 45) (.tmp 46), none⟩ (.held ⟨some 48, .load 6 true (.tmp 5), none⟩ (.alt ⟨some 49, .blds .rule 1 [(0, 6, (.tmp 48))], none⟩ (.alt ⟨some 50, .app .rule 64 (.tmp 47) (.tmp 49), none⟩ (.alt ⟨some 51, .call 11 [(.tmp 50)], none⟩ .done .stop) .stop) .stop)) (.alt ⟨some 48, .load 6 true (.tmp 5), none⟩ (.alt ⟨some 47, .app .rule 64 (.tmp 45) (.tmp 46), none⟩ (.alt ⟨some 49, .blds .rule 1 [(0, 6, (.tmp 48))], none⟩ (.alt ⟨some 50, .app .rule 64 (.tmp 47) (.tmp 49), none⟩ (.alt ⟨some 51, .call 11 [(.tmp 50)], none⟩ .done .stop) .stop) .stop) (.alt ⟨some 49, .blds .rule 1 [(0, 6, (.tmp 48))], none⟩ (.alt ⟨some 47, .app .rule 64 (.tmp 45) (.tmp 46), none⟩ (.alt ⟨some 50, .app .rule 64 (.tmp 47) (.tmp 49), none⟩ (.alt ⟨some 51, .call 11 [(.tmp 50)], none⟩ .done .stop) .stop) .stop) .stop)) .stop)) (.alt ⟨some 48, .load 6 true (.tmp 5), none⟩ (.alt ⟨some 45, .blds .rule 0 [], none⟩ (.alt ⟨some 47, .app .rule 64 (.tmp 45) (.tmp 46), none⟩ (.alt ⟨some 49, .blds .rule 1 [(0, 6, (.tmp 48))], none⟩ (.alt ⟨some 50, .app .rule 64 (.tmp 47) (.tmp 49), none⟩ (.alt ⟨some 51, .call 11 [(.tmp 50)], none⟩ .done .stop) .stop) .stop) (.alt ⟨some 49, .blds .rule 1 [(0, 6, (.tmp 48))], none⟩ (.alt ⟨some 47, .app .rule 64 (.tmp 45) (.tmp 46), none⟩ (.alt ⟨some 50, .app .rule 64 (.tmp 47) (.tmp 49), none⟩ (.alt ⟨some 51, .call 11 [(.tmp 50)], none⟩ .done .stop) .stop) .stop) .stop)) (.alt ⟨some 49, .blds .rule 1 [(0, 6, (.tmp 48))], none⟩ (.alt ⟨some 45, .blds .rule 0 [], none⟩ (.alt ⟨some 47, .app .rule 64 (.tmp 45) (.tmp 46), none⟩ (.alt ⟨some 50, .app .rule 64 (.tmp 47) (.tmp 49), none⟩ (.alt ⟨some 51, .call 11 [(.tmp 50)], none⟩ .done .stop) .stop) .stop) .stop) .stop)) .stop)))) (.cond (.tmp 51) (.ops [⟨some 52, .mov (.tmp 3), none⟩, ⟨some 53, .load 6 true (.tmp 5), none⟩, ⟨some 54, .blds .rule 1 [(0, 6, (.tmp 53))], none⟩, ⟨some 55, .app .rule 64 (.tmp 52) (.tmp 54), none⟩, ⟨some 3, .mov (.tmp 55), none⟩]) .skip)))))))) (.ops [⟨some 11, .mov (.tmp 4), none⟩, ⟨some 12, .bin .sub (.tmp 11) (.const (.int .i64 1)), none⟩, ⟨some 4, .mov (.tmp 12), none⟩])))))) (.seq (.ops [⟨some 56, .mov (.tmp 3), none⟩, ⟨some 2, .mov (.tmp 56), none⟩]) .ret))))
@[reducible] def rv66 : List RV := [.tmp 2]
theorem low66 : lowC Tryd.prog tau Tryd.f66.ntmps (Tryd.f66.body.getD .skip) = some (erase ic66) := by kernel_rfl
theorem res66 : lowR Tryd.prog Tryd.f66.results.toList = some rv66 := by kernel_rfl
theorem bod66 : Tryd.f66.body = some (Tryd.f66.body.getD .skip) := by kernel_rfl
theorem cal66 : callable Tryd.prog 66 = true := by kernel_rfl

end Go.Proofs.YthghcialeghgoaaDoorE

/-! Rules and numbers are drawn. -/
namespace Go.Proofs.YthghcialeghgoaaDoorE
open Go Go.RowKit
set_option linter.unusedSimpArgs false
set_option linter.unusedVariables false
set_option maxRecDepth 20000
set_option maxHeartbeats 4000000

theorem szRul_app {l : List Rul} {r : Rul} {n : Nat} (h : szRulAll l n) (h2 : szRulOk r n) : szRulAll (l ++ [r]) n := fun i hi => by
  by_cases e : i < l.length
  · have := h i e
    rwa [show (l ++ [r]).getD i (⟨⟨#[]⟩, 0, 0, 0, 0, ⟨#[]⟩⟩ : Rul) = l.getD i (⟨⟨#[]⟩, 0, 0, 0, 0, ⟨#[]⟩⟩ : Rul) by simp only [List.getD, List.getElem?_append_left e]]
  · have e2 : i = l.length := by simp at hi; omega
    subst e2
    rwa [show (l ++ [r]).getD l.length (⟨⟨#[]⟩, 0, 0, 0, 0, ⟨#[]⟩⟩ : Rul) = r by simp [List.getD]]
theorem szRul_set {l : List Rul} {r : Rul} {n k : Nat} (h : szRulAll l n) (h2 : szRulOk r n) : szRulAll (l.set k r) n := fun i hi => by
  have hi2 : i < l.length := by simpa using hi
  by_cases e : k = i
  · subst e
    rwa [show (l.set k r).getD k (⟨⟨#[]⟩, 0, 0, 0, 0, ⟨#[]⟩⟩ : Rul) = r by simp [List.getD, hi2]]
  · have := h i hi2
    rwa [show (l.set k r).getD i (⟨⟨#[]⟩, 0, 0, 0, 0, ⟨#[]⟩⟩ : Rul) = l.getD i (⟨⟨#[]⟩, 0, 0, 0, 0, ⟨#[]⟩⟩ : Rul) by simp [List.getD, List.getElem?_set, e]]
theorem szRul_mono {l : List Rul} {n m : Nat} (h : szRulAll l n) (hn : n ≤ m) : szRulAll l m := fun i hi => ⟨Nat.le_trans (h i hi).1 hn, Nat.le_trans (h i hi).2 hn⟩
def spRules : Spec := ⟨fun _ => takeP, fun args objs K => match args, objs with
  | [.ptr 0 0], [.box [.rs .byte b, .v (.int .i64 i), .v (.int .i64 h)]] => (0 ≤ i ∧ i ≤ b.length ∧ b.length ≤ 1099511627776) ∧
      ∀ (l : List Rul) (i' h' : Int), (0 ≤ i' ∧ i' ≤ b.length) ∧ l.length ≤ 7 ∧ szRulAll l 3 → K (.sub 1 6 0 l.length) [(0, .box [.rs .byte b, .v (.int .i64 i'), .v (.int .i64 h')]), (1, .row .rule l)] 2
  | _, _ => False, true⟩
theorem spRules_t {L : Hp} {a : List AVal} : Spec.take spRules L a = takeP a := id rfl
theorem spRules_k : Spec.keep spRules = true := id rfl
theorem spRules_f {b} {i} {h} {K : AVal → Hp → Nat → Prop} : Spec.f spRules ([.ptr 0 0]) ([.box [.rs .byte b, .v (.int .i64 i), .v (.int .i64 h)]]) K = ((0 ≤ i ∧ i ≤ b.length ∧ b.length ≤ 1099511627776) ∧
      ∀ (l : List Rul) (i' h' : Int), (0 ≤ i' ∧ i' ≤ b.length) ∧ l.length ≤ 7 ∧ szRulAll l 3 → K (.sub 1 6 0 l.length) [(0, .box [.rs .byte b, .v (.int .i64 i'), .v (.int .i64 h')]), (1, .row .rule l)] 2) := id rfl
theorem valid66 : Valid Tryd.prog 66 spRules := by
  refine validI (Γ := lk [(11, spRulesOk), (46, spBelow), (67, spDigs)]) Tryd.func66 bod66 low66 res66 (good_of ⟨⟨cal11, valid11⟩, ⟨cal46, valid46⟩, ⟨cal67, valid67⟩, trivial⟩) ?_
  intro E args objs K h0 hE hG hP
  simp only [spRules] at h0
  split at h0
  · refine ⟨by simp [Tryd.ntmps66], ?_⟩
    rename_i b i h
    obtain ⟨⟨b1, b2, b3⟩, h0⟩ := h0
    have hv8 := belV_bd (b := b) (i := i) (h := h) (n := 8) (by omega)
    have hi8 := belI_bd (b := b) (i := i) (n := 8) ⟨b1, b2⟩
    simp (config := { maxSteps := 2000000 }) only [go_sem, hG, hP, Nat.reduceEqDiff, ↓reduceIte, reduceCtorEq, Nat.reduceAdd, Nat.reduceSub, Nat.reduceMul, Nat.reduceLT, Nat.reduceLeDiff, Int.reduceAdd, Int.reduceSub, Int.reduceMul, Int.reduceLT, Int.reduceLE, Int.reduceEq, Int.reduceNeg, Int.reduceNe, Int.reduceGE, Int.reduceGT, Nat.reduceBEq, Int.reduceToNat,  spBelow_f, spBelow_t, spBelow_k, takeP_eq]
    repeat (refine And.intro (by first | omega | (simp; done) | (simp; omega) | (unfold appRoom; omega)) ?_)
    refine loopI hE (fun z : Int × List Rul × Int × Int => ⟨[(0, .ptr 0 0), (3, .sub 1 6 0 z.2.1.length), (4, .v (.int .i64 z.1))], [(0, .box [.rs .byte b, .v (.int .i64 z.2.2.1), .v (.int .i64 z.2.2.2)]), (1, .row .rule z.2.1)], 2, Tryd.f66.ntmps⟩) (fun z => (0 ≤ z.1 ∧ (z.2.1.length : Int) + z.1 ≤ 7) ∧ (0 ≤ z.2.2.1 ∧ z.2.2.1 ≤ b.length) ∧ szRulAll z.2.1 3) (fun z => z.1.toNat) ⟨(belV b i h 8, [], belI b i 8, belH h 8), ⟨⟨hv8.1, by simp; omega⟩, hi8, fun k hk => by simp at hk⟩, SubS.weak ?_⟩ ?_
    · simp (config := { maxSteps := 2000000 }) only [go_sem, hG, hP, Nat.reduceEqDiff, ↓reduceIte, reduceCtorEq, Nat.reduceAdd, Nat.reduceSub, Nat.reduceMul, Nat.reduceLT, Nat.reduceLeDiff, Int.reduceAdd, Int.reduceSub, Int.reduceMul, Int.reduceLT, Int.reduceLE, Int.reduceEq, Int.reduceNeg, Int.reduceNe, Int.reduceGE, Int.reduceGT, Nat.reduceBEq, Int.reduceToNat]
      repeat' (first | with_reducible rfl | (refine And.intro ?_ ?_) | (refine congrArg (Value.int _) ?_; omega) | omega)
    · rintro ⟨c, l, i, h⟩ ⟨⟨c1, c2⟩, ⟨c3, c4⟩, c5⟩
      dsimp only at c1 c2 c3 c4 c5 ⊢
      by_cases hc : c > 0
      · have e1 := eq_true hc
        have v1 := belV_bd (b := b) (i := i) (h := h) (n := 3) (by omega)
        have i1 := belI_bd (b := b) (i := i) (n := 3) ⟨c3, c4⟩
        generalize hV1 : belV b i h 3 = V1 at *
        generalize hI1 : belI b i 3 = I1 at *
        generalize hH1 : belH h 3 = H1 at *
        have w1 : wr .i64 (1 + V1) = 1 + V1 := wrap_id (by omega) (by omega)
        obtain ⟨i2, z2, y2⟩ := digD_bd (b := b) (i := I1) (h := H1) i1 (1 + V1).toNat
        generalize hD2 : digD b I1 H1 (1 + V1).toNat = D2 at *
        obtain ⟨p2, I2, H2⟩ := D2
        dsimp only at i2 z2 y2
        have v3 := belV_bd (b := b) (i := I2) (h := H2) (n := 5) (by omega)
        have i3 := belI_bd (b := b) (i := I2) (n := 5) i2
        generalize hV3 : belV b I2 H2 5 = V3 at *
        generalize hI3 : belI b I2 5 = I3 at *
        generalize hH3 : belH H2 5 = H3 at *
        have v4 := belV_bd (b := b) (i := I3) (h := H3) (n := 4) (by omega)
        have i4 := belI_bd (b := b) (i := I3) (n := 4) i3
        generalize hV4 : belV b I3 H3 4 = V4 at *
        generalize hI4 : belI b I3 4 = I4 at *
        generalize hH4 : belH H3 4 = H4 at *
        have v5 := belV_bd (b := b) (i := I4) (h := H4) (n := 3) (by omega)
        have i5 := belI_bd (b := b) (i := I4) (n := 3) i4
        generalize hV5 : belV b I4 H4 3 = V5 at *
        generalize hI5 : belI b I4 3 = I5 at *
        generalize hH5 : belH H4 3 = H5 at *
        have w4 : wr .i64 ((p2.size : Int) + V4) = p2.size + V4 := wrap_id (by omega) (by omega)
        have w5 : wr .i64 ((p2.size : Int) + V4 + V5) = p2.size + V4 + V5 := wrap_id (by omega) (by omega)
        have w6 : wr .i64 ((p2.size : Int) + V4 + 1) = p2.size + V4 + 1 := wrap_id (by omega) (by omega)
        have v6 := belV_bd (b := b) (i := I5) (h := H5) (n := p2.size + V4 + 1) (by omega)
        have i6 := belI_bd (b := b) (i := I5) (n := p2.size + V4 + 1) i5
        generalize hV6 : belV b I5 H5 (p2.size + V4 + 1) = V6 at *
        generalize hI6 : belI b I5 (p2.size + V4 + 1) = I6 at *
        generalize hH6 : belH H5 (p2.size + V4 + 1) = H6 at *
        have v7 := belV_bd (b := b) (i := I6) (h := H6) (n := 3) (by omega)
        have i7 := belI_bd (b := b) (i := I6) (n := 3) i6
        generalize hV7 : belV b I6 H6 3 = V7 at *
        generalize hI7 : belI b I6 3 = I7 at *
        generalize hH7 : belH H6 3 = H7 at *
        obtain ⟨i8, z8, y8⟩ := digD_bd (b := b) (i := I7) (h := H7) i7 V7.toNat
        generalize hD8 : digD b I7 H7 V7.toNat = D8 at *
        obtain ⟨p8, I8, H8⟩ := D8
        dsimp only at i8 z8 y8
        have hnew : szRulAll (l ++ [⟨p2, p2.size + V4, p2.size + V4 + V5, V3, V6, p8⟩]) 3 := szRul_app c5 ⟨by dsimp only; omega, by dsimp only; omega⟩
        have hnew2 : szRulAll (l ++ [⟨p2, p2.size + V4, p2.size + V4 + V5, V3, V6, p8⟩]) 140737488351232 := szRul_mono hnew (by omega)
        have hnt := eq_true hnew2
        simp (config := { maxSteps := 2000000 }) only [go_sem, hG, hP, Nat.reduceEqDiff, ↓reduceIte, reduceCtorEq, Nat.reduceAdd, Nat.reduceSub, Nat.reduceMul, Nat.reduceLT, Nat.reduceLeDiff, Int.reduceAdd, Int.reduceSub, Int.reduceMul, Int.reduceLT, Int.reduceLE, Int.reduceEq, Int.reduceNeg, Int.reduceNe, Int.reduceGE, Int.reduceGT, Nat.reduceBEq, Int.reduceToNat,  e1, spBelow_f, spBelow_t, spBelow_k, spDigs_f, spDigs_t, spDigs_k, spRulesOk_f, spRulesOk_t, spRulesOk_k, takeP_eq, hV1, hI1, hH1, hD2, hV3, hI3, hH3, hV4, hI4, hH4, hV5, hI5, hH5, hV6, hI6, hH6, hV7, hI7, hH7, hD8, w1, w4, w5, w6, hnt]
        clear hV1 hI1 hH1 hD2 hV3 hI3 hH3 hV4 hI4 hH4 hV5 hI5 hH5 hV6 hI6 hH6 hV7 hI7 hH7 hD8
        (try simp (disch := omega) only [wrap_id])
        repeat' (first | (refine And.intro ?_ ?_) | (with_reducible intro _))
        all_goals first
          | omega
          | (simp; done)
          | (simp; omega)
          | (unfold appRoom; omega)
          | (rw [List.take_of_length_le (by simp)]; exact hnew2)
          | (refine ⟨(c - 1, l ++ [⟨p2, p2.size + V4, p2.size + V4 + V5, V3, V6, p8⟩], I8, H8), ⟨⟨⟨by dsimp only; omega, by simp; omega⟩, i8, hnew⟩, by dsimp only; omega⟩, SubS.weak ?_⟩
             simp (config := { maxSteps := 2000000 }) only [go_sem, hG, hP, Nat.reduceEqDiff, ↓reduceIte, reduceCtorEq, Nat.reduceAdd, Nat.reduceSub, Nat.reduceMul, Nat.reduceLT, Nat.reduceLeDiff, Int.reduceAdd, Int.reduceSub, Int.reduceMul, Int.reduceLT, Int.reduceLE, Int.reduceEq, Int.reduceNeg, Int.reduceNe, Int.reduceGE, Int.reduceGT, Nat.reduceBEq, Int.reduceToNat]
             all_goals simp
             done)
          | (refine ⟨(c - 1, l, I8, H8), ⟨⟨⟨by dsimp only; omega, by dsimp only; omega⟩, i8, c5⟩, by dsimp only; omega⟩, SubS.weak ?_⟩
             simp (config := { maxSteps := 2000000 }) only [go_sem, hG, hP, Nat.reduceEqDiff, ↓reduceIte, reduceCtorEq, Nat.reduceAdd, Nat.reduceSub, Nat.reduceMul, Nat.reduceLT, Nat.reduceLeDiff, Int.reduceAdd, Int.reduceSub, Int.reduceMul, Int.reduceLT, Int.reduceLE, Int.reduceEq, Int.reduceNeg, Int.reduceNe, Int.reduceGE, Int.reduceGT, Nat.reduceBEq, Int.reduceToNat]
             all_goals simp
             done)
          | skip
        skip
        done
      · have e1 := eq_false hc
        simp (config := { maxSteps := 2000000 }) only [go_sem, hG, hP, Nat.reduceEqDiff, ↓reduceIte, reduceCtorEq, Nat.reduceAdd, Nat.reduceSub, Nat.reduceMul, Nat.reduceLT, Nat.reduceLeDiff, Int.reduceAdd, Int.reduceSub, Int.reduceMul, Int.reduceLT, Int.reduceLE, Int.reduceEq, Int.reduceNeg, Int.reduceNe, Int.reduceGE, Int.reduceGT, Nat.reduceBEq, Int.reduceToNat,  e1]
        refine ⟨_, _, _, ?_, h0 l i h ⟨⟨c3, c4⟩, by omega, c5⟩⟩
        simp (config := { maxSteps := 2000000 }) only [go_sem, hG, hP, Nat.reduceEqDiff, ↓reduceIte, reduceCtorEq, Nat.reduceAdd, Nat.reduceSub, Nat.reduceMul, Nat.reduceLT, Nat.reduceLeDiff, Int.reduceAdd, Int.reduceSub, Int.reduceMul, Int.reduceLT, Int.reduceLE, Int.reduceEq, Int.reduceNeg, Int.reduceNe, Int.reduceGE, Int.reduceGT, Nat.reduceBEq, Int.reduceToNat]
        all_goals simp
  · exact h0.elim
def spAny : Spec := ⟨fun _ => takeP, fun args objs K => match args, objs with
  | [.ptr 0 0], [.box [.rs .byte b, .v (.int .i64 i), .v (.int .i64 h)]] => (0 ≤ i ∧ i ≤ b.length ∧ b.length ≤ 1099511627776) ∧
      ∀ (l : List Rul) (i' h' : Int), (0 ≤ i' ∧ i' ≤ b.length) ∧ l.length ≤ 7 ∧ szRulAll l 1000 → K (.sub 1 6 0 l.length) [(0, .box [.rs .byte b, .v (.int .i64 i'), .v (.int .i64 h')]), (1, .row .rule l)] 2
  | _, _ => False, true⟩
theorem spAny_t {L : Hp} {a : List AVal} : Spec.take spAny L a = takeP a := id rfl
theorem spAny_k : Spec.keep spAny = true := id rfl
theorem spAny_f {b} {i} {h} {K : AVal → Hp → Nat → Prop} : Spec.f spAny ([.ptr 0 0]) ([.box [.rs .byte b, .v (.int .i64 i), .v (.int .i64 h)]]) K = ((0 ≤ i ∧ i ≤ b.length ∧ b.length ≤ 1099511627776) ∧
      ∀ (l : List Rul) (i' h' : Int), (0 ≤ i' ∧ i' ≤ b.length) ∧ l.length ≤ 7 ∧ szRulAll l 1000 → K (.sub 1 6 0 l.length) [(0, .box [.rs .byte b, .v (.int .i64 i'), .v (.int .i64 h')]), (1, .row .rule l)] 2) := id rfl
theorem strs_ok {l : List ByteArray} {n : Nat} (h : ∀ s ∈ l, s.size ≤ n) (k : Nat) : (l.getD k ⟨#[]⟩).size ≤ n := by
  by_cases hk : k < l.length
  · rw [List.getD, List.getElem?_eq_getElem hk]
    exact h _ (List.getElem_mem hk)
  · rw [List.getD, List.getElem?_eq_none (by omega)]
    exact Nat.zero_le _
theorem valid53 : Valid Tryd.prog 53 spAny := by
  refine validI (Γ := lk [(44, spOnce), (45, spPickS), (46, spBelow), (55, spPickN), (66, spRules)]) Tryd.func53 bod53 low53 res53 (good_of ⟨⟨cal44, valid44⟩, ⟨cal45, valid45⟩, ⟨cal46, valid46⟩, ⟨cal55, valid55⟩, ⟨cal66, valid66⟩, trivial⟩) ?_
  intro E args objs K h0 hE hG hP
  simp only [spAny] at h0
  split at h0
  · refine ⟨by simp [Tryd.ntmps53], ?_⟩
    rename_i b i h
    obtain ⟨⟨b1, b2, b3⟩, h0⟩ := h0
    simp (config := { maxSteps := 2000000 }) only [go_sem, hG, hP, Nat.reduceEqDiff, ↓reduceIte, reduceCtorEq, Nat.reduceAdd, Nat.reduceSub, Nat.reduceMul, Nat.reduceLT, Nat.reduceLeDiff, Int.reduceAdd, Int.reduceSub, Int.reduceMul, Int.reduceLT, Int.reduceLE, Int.reduceEq, Int.reduceNeg, Int.reduceNe, Int.reduceGE, Int.reduceGT, Nat.reduceBEq, Int.reduceToNat,  spRules_f, spRules_t, spRules_k, takeP_eq]
    repeat (refine And.intro (by first | omega | (simp; done) | (simp; omega) | (unfold appRoom; omega)) ?_)
    rintro l I H ⟨⟨i1, i2⟩, l7, ls⟩
    by_cases hl : l.length = 0
    · have e0 : ((l.length : Int) = 0) = True := by apply eq_true; omega
      simp (config := { maxSteps := 2000000 }) only [go_sem, hG, hP, Nat.reduceEqDiff, ↓reduceIte, reduceCtorEq, Nat.reduceAdd, Nat.reduceSub, Nat.reduceMul, Nat.reduceLT, Nat.reduceLeDiff, Int.reduceAdd, Int.reduceSub, Int.reduceMul, Int.reduceLT, Int.reduceLE, Int.reduceEq, Int.reduceNeg, Int.reduceNe, Int.reduceGE, Int.reduceGT, Nat.reduceBEq, Int.reduceToNat,  e0, spOnce_f, spOnce_t, spOnce_k, takeP_eq]
      refine ⟨_, _, _, ?_, h0 l I H ⟨⟨i1, i2⟩, l7, szRul_mono ls (by omega)⟩⟩
      simp (config := { maxSteps := 2000000 }) only [go_sem, hG, hP, Nat.reduceEqDiff, ↓reduceIte, reduceCtorEq, Nat.reduceAdd, Nat.reduceSub, Nat.reduceMul, Nat.reduceLT, Nat.reduceLeDiff, Int.reduceAdd, Int.reduceSub, Int.reduceMul, Int.reduceLT, Int.reduceLE, Int.reduceEq, Int.reduceNeg, Int.reduceNe, Int.reduceGE, Int.reduceGT, Nat.reduceBEq, Int.reduceToNat]
      all_goals simp
    · have e0 : ((l.length : Int) = 0) = False := by apply eq_false; omega
      have ia := belI_bd (b := b) (i := I) (n := 12) ⟨i1, i2⟩
      generalize hIa : belI b I 12 = Ia at *
      generalize hHa : belH H 12 = Ha at *
      have vb := belV_bd (b := b) (i := Ia) (h := Ha) (n := (l.length : Int)) (by omega)
      have ib := belI_bd (b := b) (i := Ia) (n := (l.length : Int)) ia
      generalize hVb : belV b Ia Ha l.length = Vb at *
      generalize hIb : belI b Ia l.length = Ib at *
      generalize hHb : belH Ha l.length = Hb at *
      have ic := belI_bd (b := b) (i := Ib) (n := 6) ib
      generalize hVc : belV b Ib Hb 6 = Vc at *
      generalize hIc : belI b Ib 6 = Ic at *
      generalize hHc : belH Hb 6 = Hc at *
      have i_2 := belI_bd (b := b) (i := Ic) (n := 2) ic
      have i_3 := belI_bd (b := b) (i := Ic) (n := 3) ic
      have i_4 := belI_bd (b := b) (i := Ic) (n := 4) ic
      have v_2 := belV_bd (b := b) (i := Ic) (h := Hc) (n := 2) (by omega)
      have v_3 := belV_bd (b := b) (i := Ic) (h := Hc) (n := 3) (by omega)
      have v_4 := belV_bd (b := b) (i := Ic) (h := Hc) (n := 4) (by omega)
      have hr0 : szRulOk (l.getD Vb.toNat Rulz) 1000 := szRul_mono ls (by omega) _ (by omega)
      have key : ∀ (r : Rul) (i' h' : Int), (0 ≤ i' ∧ i' ≤ b.length) → szRulOk r 1000 → K (.sub 1 6 0 l.length) [(0, .box [.rs .byte b, .v (.int .i64 i'), .v (.int .i64 h')]), (1, .row .rule (l.set Vb.toNat r))] 2 := fun r i' h' q1 q2 => by
        have := h0 (l.set Vb.toNat r) i' h' ⟨q1, by simpa using l7, szRul_set (szRul_mono ls (by omega)) q2⟩
        simpa using this
      simp (config := { maxSteps := 2000000 }) only [go_sem, hG, hP, Nat.reduceEqDiff, ↓reduceIte, reduceCtorEq, Nat.reduceAdd, Nat.reduceSub, Nat.reduceMul, Nat.reduceLT, Nat.reduceLeDiff, Int.reduceAdd, Int.reduceSub, Int.reduceMul, Int.reduceLT, Int.reduceLE, Int.reduceEq, Int.reduceNeg, Int.reduceNe, Int.reduceGE, Int.reduceGT, Nat.reduceBEq, Int.reduceToNat,  e0, spOnce_f, spOnce_t, spOnce_k, spPickS_f, spPickS_t, spPickS_k, spPickN_f, spPickN_t, spPickN_k, spBelow_f, spBelow_t, spBelow_k, takeP_eq, takeCR_eq, hIa, hHa, hVb, hIb, hHb, hVc, hIc, hHc]
      (try simp (disch := omega) only [wrap_id])
      repeat' (first | (refine And.intro ?_ ?_) | (with_reducible intro _))
      all_goals first
        | omega
        | (simp; done)
        | (refine ⟨_, _, _, ?_, key ⟨(([⟨#[]⟩, ⟨#[97]⟩, ⟨#[49]⟩, ⟨#[49, 50, 51, 52, 53, 54, 55, 56, 57, 48, 49, 50, 51, 52, 53, 54, 55, 56, 57, 48, 49]⟩] : List ByteArray).getD (belV b Ic Hc 4).toNat ⟨#[]⟩), (l.getD Vb.toNat Rulz).least, (l.getD Vb.toNat Rulz).most, (l.getD Vb.toNat Rulz).route, (l.getD Vb.toNat Rulz).strip, (l.getD Vb.toNat Rulz).add⟩ (belI b Ic 4) (belH Hc 4) i_4 ⟨strs_ok (by decide) _, hr0.2⟩⟩
           simp (config := { maxSteps := 2000000 }) only [go_sem, hG, hP, Nat.reduceEqDiff, ↓reduceIte, reduceCtorEq, Nat.reduceAdd, Nat.reduceSub, Nat.reduceMul, Nat.reduceLT, Nat.reduceLeDiff, Int.reduceAdd, Int.reduceSub, Int.reduceMul, Int.reduceLT, Int.reduceLE, Int.reduceEq, Int.reduceNeg, Int.reduceNe, Int.reduceGE, Int.reduceGT, Nat.reduceBEq, Int.reduceToNat]
           all_goals simp
           done)
        | (refine ⟨_, _, _, ?_, key ⟨(l.getD Vb.toNat Rulz).pre, ([0, 20, 21] : List Int).getD (belV b Ic Hc 3).toNat 0, (l.getD Vb.toNat Rulz).most, (l.getD Vb.toNat Rulz).route, (l.getD Vb.toNat Rulz).strip, (l.getD Vb.toNat Rulz).add⟩ (belI b Ic 3) (belH Hc 3) i_3 ⟨hr0.1, hr0.2⟩⟩
           simp (config := { maxSteps := 2000000 }) only [go_sem, hG, hP, Nat.reduceEqDiff, ↓reduceIte, reduceCtorEq, Nat.reduceAdd, Nat.reduceSub, Nat.reduceMul, Nat.reduceLT, Nat.reduceLeDiff, Int.reduceAdd, Int.reduceSub, Int.reduceMul, Int.reduceLT, Int.reduceLE, Int.reduceEq, Int.reduceNeg, Int.reduceNe, Int.reduceGE, Int.reduceGT, Nat.reduceBEq, Int.reduceToNat]
           all_goals simp
           done)
        | (refine ⟨_, _, _, ?_, key ⟨(l.getD Vb.toNat Rulz).pre, (l.getD Vb.toNat Rulz).least, ([0, 20, 21] : List Int).getD (belV b Ic Hc 3).toNat 0, (l.getD Vb.toNat Rulz).route, (l.getD Vb.toNat Rulz).strip, (l.getD Vb.toNat Rulz).add⟩ (belI b Ic 3) (belH Hc 3) i_3 ⟨hr0.1, hr0.2⟩⟩
           simp (config := { maxSteps := 2000000 }) only [go_sem, hG, hP, Nat.reduceEqDiff, ↓reduceIte, reduceCtorEq, Nat.reduceAdd, Nat.reduceSub, Nat.reduceMul, Nat.reduceLT, Nat.reduceLeDiff, Int.reduceAdd, Int.reduceSub, Int.reduceMul, Int.reduceLT, Int.reduceLE, Int.reduceEq, Int.reduceNeg, Int.reduceNe, Int.reduceGE, Int.reduceGT, Nat.reduceBEq, Int.reduceToNat]
           all_goals simp
           done)
        | (refine ⟨_, _, _, ?_, key ⟨(l.getD Vb.toNat Rulz).pre, (l.getD Vb.toNat Rulz).least, (l.getD Vb.toNat Rulz).most, ([-1, 1000, 1001] : List Int).getD (belV b Ic Hc 3).toNat 0, (l.getD Vb.toNat Rulz).strip, (l.getD Vb.toNat Rulz).add⟩ (belI b Ic 3) (belH Hc 3) i_3 ⟨hr0.1, hr0.2⟩⟩
           simp (config := { maxSteps := 2000000 }) only [go_sem, hG, hP, Nat.reduceEqDiff, ↓reduceIte, reduceCtorEq, Nat.reduceAdd, Nat.reduceSub, Nat.reduceMul, Nat.reduceLT, Nat.reduceLeDiff, Int.reduceAdd, Int.reduceSub, Int.reduceMul, Int.reduceLT, Int.reduceLE, Int.reduceEq, Int.reduceNeg, Int.reduceNe, Int.reduceGE, Int.reduceGT, Nat.reduceBEq, Int.reduceToNat]
           all_goals simp
           done)
        | (refine ⟨_, _, _, ?_, key ⟨(l.getD Vb.toNat Rulz).pre, (l.getD Vb.toNat Rulz).least, (l.getD Vb.toNat Rulz).most, (l.getD Vb.toNat Rulz).route, ([-1, 9] : List Int).getD (belV b Ic Hc 2).toNat 0, (l.getD Vb.toNat Rulz).add⟩ (belI b Ic 2) (belH Hc 2) i_2 ⟨hr0.1, hr0.2⟩⟩
           simp (config := { maxSteps := 2000000 }) only [go_sem, hG, hP, Nat.reduceEqDiff, ↓reduceIte, reduceCtorEq, Nat.reduceAdd, Nat.reduceSub, Nat.reduceMul, Nat.reduceLT, Nat.reduceLeDiff, Int.reduceAdd, Int.reduceSub, Int.reduceMul, Int.reduceLT, Int.reduceLE, Int.reduceEq, Int.reduceNeg, Int.reduceNe, Int.reduceGE, Int.reduceGT, Nat.reduceBEq, Int.reduceToNat]
           all_goals simp
           done)
        | (refine ⟨_, _, _, ?_, key ⟨(l.getD Vb.toNat Rulz).pre, (l.getD Vb.toNat Rulz).least, (l.getD Vb.toNat Rulz).most, (l.getD Vb.toNat Rulz).route, (l.getD Vb.toNat Rulz).strip, (([⟨#[120]⟩, ⟨#[49, 50, 51, 52, 53, 54, 55, 56, 57, 48, 49, 50, 51, 52, 53, 54, 55, 56, 57, 48]⟩] : List ByteArray).getD (belV b Ic Hc 2).toNat ⟨#[]⟩)⟩ (belI b Ic 2) (belH Hc 2) i_2 ⟨hr0.1, strs_ok (by decide) _⟩⟩
           simp (config := { maxSteps := 2000000 }) only [go_sem, hG, hP, Nat.reduceEqDiff, ↓reduceIte, reduceCtorEq, Nat.reduceAdd, Nat.reduceSub, Nat.reduceMul, Nat.reduceLT, Nat.reduceLeDiff, Int.reduceAdd, Int.reduceSub, Int.reduceMul, Int.reduceLT, Int.reduceLE, Int.reduceEq, Int.reduceNeg, Int.reduceNe, Int.reduceGE, Int.reduceGT, Nat.reduceBEq, Int.reduceToNat]
           all_goals simp
           done)
        | (refine ⟨_, _, _, ?_, h0 l Ia Ha ⟨ia, l7, szRul_mono ls (by omega)⟩⟩
           simp (config := { maxSteps := 2000000 }) only [go_sem, hG, hP, Nat.reduceEqDiff, ↓reduceIte, reduceCtorEq, Nat.reduceAdd, Nat.reduceSub, Nat.reduceMul, Nat.reduceLT, Nat.reduceLeDiff, Int.reduceAdd, Int.reduceSub, Int.reduceMul, Int.reduceLT, Int.reduceLE, Int.reduceEq, Int.reduceNeg, Int.reduceNe, Int.reduceGE, Int.reduceGT, Nat.reduceBEq, Int.reduceToNat]
           all_goals simp
           done)
        | (refine ⟨_, _, _, ?_, h0 l Ic Hc ⟨ic, l7, szRul_mono ls (by omega)⟩⟩
           simp (config := { maxSteps := 2000000 }) only [go_sem, hG, hP, Nat.reduceEqDiff, ↓reduceIte, reduceCtorEq, Nat.reduceAdd, Nat.reduceSub, Nat.reduceMul, Nat.reduceLT, Nat.reduceLeDiff, Int.reduceAdd, Int.reduceSub, Int.reduceMul, Int.reduceLT, Int.reduceLE, Int.reduceEq, Int.reduceNeg, Int.reduceNe, Int.reduceGE, Int.reduceGT, Nat.reduceBEq, Int.reduceToNat]
           all_goals simp
           done)
        | skip
      skip
      done
  · exact h0.elim
end Go.Proofs.YthghcialeghgoaaDoorE

/-! Numbers are drawn. -/
namespace Go.Proofs.YthghcialeghgoaaDoorE
open Go Go.RowKit
set_option linter.unusedSimpArgs false
set_option linter.unusedVariables false
set_option maxRecDepth 20000
set_option maxHeartbeats 4000000

def spDialled : Spec := ⟨fun _ => takeCR, fun args objs K => match args, objs with
  | [.ptr 0 0, .sub 1 6 0 n], [.box [.rs .byte b, .v (.int .i64 i), .v (.int .i64 h)], .row .rule l] => ((0 ≤ i ∧ i ≤ b.length ∧ b.length ≤ 1099511627776) ∧ n = l.length ∧ l.length ≤ 1000 ∧ szRulAll l 1000) ∧
      ∀ (s : ByteArray) (i' h' : Int), (0 ≤ i' ∧ i' ≤ b.length) ∧ s.size ≤ 2000 → K (.v (.string s)) [(0, .box [.rs .byte b, .v (.int .i64 i'), .v (.int .i64 h')]), (1, .row .rule l)] 2
  | _, _ => False, true⟩
theorem spDialled_t {L : Hp} {a : List AVal} : Spec.take spDialled L a = takeCR a := id rfl
theorem spDialled_k : Spec.keep spDialled = true := id rfl
theorem spDialled_f {n} {b} {i} {h} {l} {K : AVal → Hp → Nat → Prop} : Spec.f spDialled ([.ptr 0 0, .sub 1 6 0 n]) ([.box [.rs .byte b, .v (.int .i64 i), .v (.int .i64 h)], .row .rule l]) K = (((0 ≤ i ∧ i ≤ b.length ∧ b.length ≤ 1099511627776) ∧ n = l.length ∧ l.length ≤ 1000 ∧ szRulAll l 1000) ∧
      ∀ (s : ByteArray) (i' h' : Int), (0 ≤ i' ∧ i' ≤ b.length) ∧ s.size ≤ 2000 → K (.v (.string s)) [(0, .box [.rs .byte b, .v (.int .i64 i'), .v (.int .i64 h')]), (1, .row .rule l)] 2) := id rfl
theorem valid54 : Valid Tryd.prog 54 spDialled := by
  refine validI (Γ := lk [(44, spOnce), (45, spPickS), (46, spBelow), (67, spDigs)]) Tryd.func54 bod54 low54 res54 (good_of ⟨⟨cal44, valid44⟩, ⟨cal45, valid45⟩, ⟨cal46, valid46⟩, ⟨cal67, valid67⟩, trivial⟩) ?_
  intro E args objs K h0 hE hG hP
  simp only [spDialled] at h0
  split at h0
  · refine ⟨by simp [Tryd.ntmps54], ?_⟩
    rename_i n b i h l
    obtain ⟨⟨⟨b1, b2, b3⟩, rfl, l7, ls⟩, h0⟩ := h0
    have i0 : 0 ≤ i ∧ i ≤ b.length := ⟨b1, b2⟩
    have v1 := belV_bd (b := b) (i := i) (h := h) (n := 8) (by omega)
    have i1 := belI_bd (b := b) (i := i) (n := 8) i0
    generalize hV1 : belV b i h 8 = V1 at *
    generalize hI1 : belI b i 8 = I1 at *
    generalize hH1 : belH h 8 = H1 at *
    obtain ⟨i2, z2, y2⟩ := digD_bd (b := b) (i := I1) (h := H1) i1 V1.toNat
    generalize hD2 : digD b I1 H1 V1.toNat = D2 at *
    obtain ⟨p2, I2, H2⟩ := D2
    dsimp only at i2 z2 y2
    have hs3 : ∀ k : Nat, (([⟨#[120]⟩, ⟨#[45]⟩, ⟨#[49, 50, 51, 52, 53, 54, 55, 56, 57, 48, 49, 50, 51, 52, 53, 54, 55, 56, 57, 48]⟩] : List ByteArray).getD k ⟨#[]⟩).size ≤ 20 := fun k => strs_ok (by decide) k
    by_cases hl : l.length = 0
    · have e0 : ((l.length : Int) > 0) = False := by apply eq_false; omega
      have i4 := belI_bd (b := b) (i := I2) (n := 30) i2
      generalize hI4 : belI b I2 30 = I4 at *
      generalize hH4 : belH H2 30 = H4 at *
      have i5 := belI_bd (b := b) (i := I4) (n := 3) i4
      have v5 := hs3 (belV b I4 H4 3).toNat
      simp (config := { maxSteps := 2000000 }) only [go_sem, hG, hP, Nat.reduceEqDiff, ↓reduceIte, reduceCtorEq, Nat.reduceAdd, Nat.reduceSub, Nat.reduceMul, Nat.reduceLT, Nat.reduceLeDiff, Int.reduceAdd, Int.reduceSub, Int.reduceMul, Int.reduceLT, Int.reduceLE, Int.reduceEq, Int.reduceNeg, Int.reduceNe, Int.reduceGE, Int.reduceGT, Nat.reduceBEq, Int.reduceToNat,  e0, spOnce_f, spOnce_t, spOnce_k, spPickS_f, spPickS_t, spPickS_k, spBelow_f, spBelow_t, spBelow_k, spDigs_f, spDigs_t, spDigs_k, takeP_eq, takeCR_eq, hV1, hI1, hH1, hD2, hI4, hH4]
      (try simp (disch := omega) only [wrap_id])
      repeat' (first | (refine And.intro ?_ ?_) | (with_reducible intro _))
      all_goals first
        | omega
        | (simp; done)
        | (refine Nat.le_trans (Nat.add_le_add_left v5 _) ?_; omega)
        | (refine ⟨_, _, _, ?_, h0 (p2 ++ (([⟨#[120]⟩, ⟨#[45]⟩, ⟨#[49, 50, 51, 52, 53, 54, 55, 56, 57, 48, 49, 50, 51, 52, 53, 54, 55, 56, 57, 48]⟩] : List ByteArray).getD (belV b I4 H4 3).toNat ⟨#[]⟩)) (belI b I4 3) (belH H4 3) ⟨i5, by rw [ByteArray.size_append]; omega⟩⟩
           simp (config := { maxSteps := 2000000 }) only [go_sem, hG, hP, Nat.reduceEqDiff, ↓reduceIte, reduceCtorEq, Nat.reduceAdd, Nat.reduceSub, Nat.reduceMul, Nat.reduceLT, Nat.reduceLeDiff, Int.reduceAdd, Int.reduceSub, Int.reduceMul, Int.reduceLT, Int.reduceLE, Int.reduceEq, Int.reduceNeg, Int.reduceNe, Int.reduceGE, Int.reduceGT, Nat.reduceBEq, Int.reduceToNat]
           all_goals simp
           done)
        | (refine ⟨_, _, _, ?_, h0 p2 I4 H4 ⟨i4, by omega⟩⟩
           simp (config := { maxSteps := 2000000 }) only [go_sem, hG, hP, Nat.reduceEqDiff, ↓reduceIte, reduceCtorEq, Nat.reduceAdd, Nat.reduceSub, Nat.reduceMul, Nat.reduceLT, Nat.reduceLeDiff, Int.reduceAdd, Int.reduceSub, Int.reduceMul, Int.reduceLT, Int.reduceLE, Int.reduceEq, Int.reduceNeg, Int.reduceNe, Int.reduceGE, Int.reduceGT, Nat.reduceBEq, Int.reduceToNat]
           all_goals simp
           done)
        | skip
      skip
      done
    · have e0 : ((l.length : Int) > 0) = True := by apply eq_true; omega
      have i3 := belI_bd (b := b) (i := I2) (n := 3) i2
      generalize hI3 : belI b I2 3 = I3 at *
      generalize hH3 : belH H2 3 = H3 at *
      by_cases hc : belV b I2 H2 3 = 0
      · have e1 := eq_true hc
        have i4 := belI_bd (b := b) (i := I3) (n := 30) i3
        generalize hI4 : belI b I3 30 = I4 at *
        generalize hH4 : belH H3 30 = H4 at *
        have i5 := belI_bd (b := b) (i := I4) (n := 3) i4
        have v5 := hs3 (belV b I4 H4 3).toNat
        simp (config := { maxSteps := 2000000 }) only [go_sem, hG, hP, Nat.reduceEqDiff, ↓reduceIte, reduceCtorEq, Nat.reduceAdd, Nat.reduceSub, Nat.reduceMul, Nat.reduceLT, Nat.reduceLeDiff, Int.reduceAdd, Int.reduceSub, Int.reduceMul, Int.reduceLT, Int.reduceLE, Int.reduceEq, Int.reduceNeg, Int.reduceNe, Int.reduceGE, Int.reduceGT, Nat.reduceBEq, Int.reduceToNat,  e0, e1, spOnce_f, spOnce_t, spOnce_k, spPickS_f, spPickS_t, spPickS_k, spBelow_f, spBelow_t, spBelow_k, spDigs_f, spDigs_t, spDigs_k, takeP_eq, takeCR_eq, hV1, hI1, hH1, hD2, hI3, hH3, hI4, hH4]
        (try simp (disch := omega) only [wrap_id])
        repeat' (first | (refine And.intro ?_ ?_) | (with_reducible intro _))
        all_goals first
          | omega
          | (simp; done)
          | (refine Nat.le_trans (Nat.add_le_add_left v5 _) ?_; omega)
          | (refine ⟨_, _, _, ?_, h0 (p2 ++ (([⟨#[120]⟩, ⟨#[45]⟩, ⟨#[49, 50, 51, 52, 53, 54, 55, 56, 57, 48, 49, 50, 51, 52, 53, 54, 55, 56, 57, 48]⟩] : List ByteArray).getD (belV b I4 H4 3).toNat ⟨#[]⟩)) (belI b I4 3) (belH H4 3) ⟨i5, by rw [ByteArray.size_append]; omega⟩⟩
             simp (config := { maxSteps := 2000000 }) only [go_sem, hG, hP, Nat.reduceEqDiff, ↓reduceIte, reduceCtorEq, Nat.reduceAdd, Nat.reduceSub, Nat.reduceMul, Nat.reduceLT, Nat.reduceLeDiff, Int.reduceAdd, Int.reduceSub, Int.reduceMul, Int.reduceLT, Int.reduceLE, Int.reduceEq, Int.reduceNeg, Int.reduceNe, Int.reduceGE, Int.reduceGT, Nat.reduceBEq, Int.reduceToNat]
             all_goals simp
             done)
          | (refine ⟨_, _, _, ?_, h0 p2 I4 H4 ⟨i4, by omega⟩⟩
             simp (config := { maxSteps := 2000000 }) only [go_sem, hG, hP, Nat.reduceEqDiff, ↓reduceIte, reduceCtorEq, Nat.reduceAdd, Nat.reduceSub, Nat.reduceMul, Nat.reduceLT, Nat.reduceLeDiff, Int.reduceAdd, Int.reduceSub, Int.reduceMul, Int.reduceLT, Int.reduceLE, Int.reduceEq, Int.reduceNeg, Int.reduceNe, Int.reduceGE, Int.reduceGT, Nat.reduceBEq, Int.reduceToNat]
             all_goals simp
             done)
          | skip
        skip
        done
      · have e1 := eq_false hc
        have va := belV_bd (b := b) (i := I3) (h := H3) (n := (l.length : Int)) (by omega)
        have ia := belI_bd (b := b) (i := I3) (n := (l.length : Int)) i3
        generalize hVa : belV b I3 H3 l.length = Va at *
        generalize hIa : belI b I3 l.length = Ia at *
        generalize hHa : belH H3 l.length = Ha at *
        have vb := belV_bd (b := b) (i := Ia) (h := Ha) (n := 6) (by omega)
        have ib := belI_bd (b := b) (i := Ia) (n := 6) ia
        generalize hVb : belV b Ia Ha 6 = Vb at *
        generalize hIb : belI b Ia 6 = Ib at *
        generalize hHb : belH Ha 6 = Hb at *
        obtain ⟨ic, zc, yc⟩ := digD_bd (b := b) (i := Ib) (h := Hb) ib Vb.toNat
        generalize hDc : digD b Ib Hb Vb.toNat = Dc at *
        obtain ⟨pc, Ic, Hc⟩ := Dc
        dsimp only at ic zc yc
        have i4 := belI_bd (b := b) (i := Ic) (n := 30) ic
        generalize hI4 : belI b Ic 30 = I4 at *
        generalize hH4 : belH Hc 30 = H4 at *
        have i5 := belI_bd (b := b) (i := I4) (n := 3) i4
        have v5 := hs3 (belV b I4 H4 3).toNat
        have hr := (ls Va.toNat (by omega)).1
        have hr2 : (l.getD Va.toNat Rulz).pre.size ≤ 1000 := hr
        simp (config := { maxSteps := 2000000 }) only [go_sem, hG, hP, Nat.reduceEqDiff, ↓reduceIte, reduceCtorEq, Nat.reduceAdd, Nat.reduceSub, Nat.reduceMul, Nat.reduceLT, Nat.reduceLeDiff, Int.reduceAdd, Int.reduceSub, Int.reduceMul, Int.reduceLT, Int.reduceLE, Int.reduceEq, Int.reduceNeg, Int.reduceNe, Int.reduceGE, Int.reduceGT, Nat.reduceBEq, Int.reduceToNat,  e0, e1, spOnce_f, spOnce_t, spOnce_k, spPickS_f, spPickS_t, spPickS_k, spBelow_f, spBelow_t, spBelow_k, spDigs_f, spDigs_t, spDigs_k, takeP_eq, takeCR_eq, hV1, hI1, hH1, hD2, hI3, hH3, hVa, hIa, hHa, hVb, hIb, hHb, hDc, hI4, hH4]
        (try simp (disch := omega) only [wrap_id])
        repeat' (first | (refine And.intro ?_ ?_) | (with_reducible intro _))
        all_goals first
          | omega
          | (simp; done)
          | (refine Nat.le_trans (Nat.add_le_add_left v5 _) ?_; rw [ByteArray.size_append]; omega)
          | (refine ⟨_, _, _, ?_, h0 ((l.getD Va.toNat Rulz).pre ++ pc ++ (([⟨#[120]⟩, ⟨#[45]⟩, ⟨#[49, 50, 51, 52, 53, 54, 55, 56, 57, 48, 49, 50, 51, 52, 53, 54, 55, 56, 57, 48]⟩] : List ByteArray).getD (belV b I4 H4 3).toNat ⟨#[]⟩)) (belI b I4 3) (belH H4 3) ⟨i5, by rw [ByteArray.size_append, ByteArray.size_append]; omega⟩⟩
             simp (config := { maxSteps := 2000000 }) only [go_sem, hG, hP, Nat.reduceEqDiff, ↓reduceIte, reduceCtorEq, Nat.reduceAdd, Nat.reduceSub, Nat.reduceMul, Nat.reduceLT, Nat.reduceLeDiff, Int.reduceAdd, Int.reduceSub, Int.reduceMul, Int.reduceLT, Int.reduceLE, Int.reduceEq, Int.reduceNeg, Int.reduceNe, Int.reduceGE, Int.reduceGT, Nat.reduceBEq, Int.reduceToNat]
             all_goals simp
             done)
          | (refine ⟨_, _, _, ?_, h0 ((l.getD Va.toNat Rulz).pre ++ pc) I4 H4 ⟨i4, by rw [ByteArray.size_append]; omega⟩⟩
             simp (config := { maxSteps := 2000000 }) only [go_sem, hG, hP, Nat.reduceEqDiff, ↓reduceIte, reduceCtorEq, Nat.reduceAdd, Nat.reduceSub, Nat.reduceMul, Nat.reduceLT, Nat.reduceLeDiff, Int.reduceAdd, Int.reduceSub, Int.reduceMul, Int.reduceLT, Int.reduceLE, Int.reduceEq, Int.reduceNeg, Int.reduceNe, Int.reduceGE, Int.reduceGT, Nat.reduceBEq, Int.reduceToNat]
             all_goals simp
             done)
          | skip
        skip
        done
  · exact h0.elim
def spDrawDial : Spec := ⟨fun _ _ => [], fun args objs K => match args, objs with
  | [.rs .byte b], [] => b.length ≤ 1099511627776 ∧
      ∀ (l : List Rul) (s : ByteArray), l.length ≤ 7 ∧ szRulAll l 1000 ∧ s.size ≤ 2000 → K (.tup [.sub 0 6 0 l.length, .v (.string s)]) [(0, .row .rule l)] 1
  | _, _ => False, false⟩
theorem spDrawDial_t {L : Hp} {a : List AVal} : Spec.take spDrawDial L a = [] := id rfl
theorem spDrawDial_k : Spec.keep spDrawDial = false := id rfl
theorem spDrawDial_f {b} {K : AVal → Hp → Nat → Prop} : Spec.f spDrawDial ([.rs .byte b]) ([]) K = (b.length ≤ 1099511627776 ∧
      ∀ (l : List Rul) (s : ByteArray), l.length ≤ 7 ∧ szRulAll l 1000 ∧ s.size ≤ 2000 → K (.tup [.sub 0 6 0 l.length, .v (.string s)]) [(0, .row .rule l)] 1) := id rfl
theorem valid25 : Valid Tryd.prog 25 spDrawDial := by
  refine validI (Γ := lk [(43, spNew), (53, spAny), (54, spDialled)]) Tryd.func25 bod25 low25 res25 (good_of ⟨⟨cal43, valid43⟩, ⟨cal53, valid53⟩, ⟨cal54, valid54⟩, trivial⟩) ?_
  intro E args objs K h0 hE hG hP
  simp only [spDrawDial] at h0
  split at h0
  · refine ⟨by simp [Tryd.ntmps25], ?_⟩
    rename_i b
    obtain ⟨b1, h0⟩ := h0
    simp (config := { maxSteps := 2000000 }) only [go_sem, hG, hP, Nat.reduceEqDiff, ↓reduceIte, reduceCtorEq, Nat.reduceAdd, Nat.reduceSub, Nat.reduceMul, Nat.reduceLT, Nat.reduceLeDiff, Int.reduceAdd, Int.reduceSub, Int.reduceMul, Int.reduceLT, Int.reduceLE, Int.reduceEq, Int.reduceNeg, Int.reduceNe, Int.reduceGE, Int.reduceGT, Nat.reduceBEq, Int.reduceToNat,  spNew_f, spNew_t, spNew_k, spAny_f, spAny_t, spAny_k, spDialled_f, spDialled_t, spDialled_k, takeP_eq, takeCR_eq]
    repeat (refine And.intro (by first | omega | (simp; done) | (simp; omega) | (unfold appRoom; omega)) ?_)
    rintro l I ⟨⟨i1, i2⟩, l7, ls⟩
    repeat (refine And.intro (by first | omega | exact ⟨⟨i1, i2, b1⟩, by omega, ls⟩ | exact ls) ?_)
    rintro s I2 H2 ⟨_, q2⟩
    refine ⟨_, _, _, ?_, h0 l s ⟨l7, ls, q2⟩⟩
    simp (config := { maxSteps := 2000000 }) only [go_sem, hG, hP, Nat.reduceEqDiff, ↓reduceIte, reduceCtorEq, Nat.reduceAdd, Nat.reduceSub, Nat.reduceMul, Nat.reduceLT, Nat.reduceLeDiff, Int.reduceAdd, Int.reduceSub, Int.reduceMul, Int.reduceLT, Int.reduceLE, Int.reduceEq, Int.reduceNeg, Int.reduceNe, Int.reduceGE, Int.reduceGT, Nat.reduceBEq, Int.reduceToNat]
    all_goals simp
  · exact h0.elim
def spDrawPort : Spec := ⟨fun _ _ => [], fun args objs K => match args, objs with
  | [.rs .byte b], [] => b.length ≤ 1099511627776 ∧
      ∀ (l : List Prt) (s : ByteArray), l.length ≤ 100 ∧ szPrtAll l 1000 ∧ s.size ≤ 2000 → K (.tup [.sub 0 2 0 l.length, .v (.string s)]) [(0, .row .prt l)] 1
  | _, _ => False, false⟩
theorem spDrawPort_t {L : Hp} {a : List AVal} : Spec.take spDrawPort L a = [] := id rfl
theorem spDrawPort_k : Spec.keep spDrawPort = false := id rfl
theorem spDrawPort_f {b} {K : AVal → Hp → Nat → Prop} : Spec.f spDrawPort ([.rs .byte b]) ([]) K = (b.length ≤ 1099511627776 ∧
      ∀ (l : List Prt) (s : ByteArray), l.length ≤ 100 ∧ szPrtAll l 1000 ∧ s.size ≤ 2000 → K (.tup [.sub 0 2 0 l.length, .v (.string s)]) [(0, .row .prt l)] 1) := id rfl
theorem szPrt_app {l : List Prt} {r : Prt} {n : Nat} (h : szPrtAll l n) (h2 : szPrtOk r n) : szPrtAll (l ++ [r]) n := fun i hi => by
  by_cases e : i < l.length
  · have := h i e
    rwa [show (l ++ [r]).getD i (⟨⟨#[]⟩, ⟨#[]⟩⟩ : Prt) = l.getD i (⟨⟨#[]⟩, ⟨#[]⟩⟩ : Prt) by simp only [List.getD, List.getElem?_append_left e]]
  · have e2 : i = l.length := by simp at hi; omega
    subst e2
    rwa [show (l ++ [r]).getD l.length (⟨⟨#[]⟩, ⟨#[]⟩⟩ : Prt) = r by simp [List.getD]]
theorem szPrt_dbl {l : List Prt} {n : Nat} (h : szPrtAll l n) : szPrtAll (l ++ l) n := fun i hi => by
  by_cases e : i < l.length
  · have := h i e
    rwa [show (l ++ l).getD i (⟨⟨#[]⟩, ⟨#[]⟩⟩ : Prt) = l.getD i (⟨⟨#[]⟩, ⟨#[]⟩⟩ : Prt) by simp only [List.getD, List.getElem?_append_left e]]
  · have := h (i - l.length) (by simp at hi; omega)
    rwa [show (l ++ l).getD i (⟨⟨#[]⟩, ⟨#[]⟩⟩ : Prt) = l.getD (i - l.length) (⟨⟨#[]⟩, ⟨#[]⟩⟩ : Prt) by simp only [List.getD, List.getElem?_append_right (Nat.le_of_not_lt e)]]
def namL : List ByteArray := [⟨#[49]⟩, ⟨#[50]⟩, ⟨#[49, 50]⟩, ⟨#[57]⟩, ⟨#[57, 48]⟩, ⟨#[57, 49]⟩]
theorem valid21 : Valid Tryd.prog 21 spDrawPort := by
  refine validI (Γ := lk [(43, spNew), (44, spOnce), (45, spPickS), (46, spBelow)]) Tryd.func21 bod21 low21 res21 (good_of ⟨⟨cal43, valid43⟩, ⟨cal44, valid44⟩, ⟨cal45, valid45⟩, ⟨cal46, valid46⟩, trivial⟩) ?_
  intro E args objs K h0 hE hG hP
  simp only [spDrawPort] at h0
  split at h0
  · refine ⟨by simp [Tryd.ntmps21], ?_⟩
    rename_i b
    obtain ⟨b1, h0⟩ := h0
    simp (config := { maxSteps := 2000000 }) only [go_sem, hG, hP, Nat.reduceEqDiff, ↓reduceIte, reduceCtorEq, Nat.reduceAdd, Nat.reduceSub, Nat.reduceMul, Nat.reduceLT, Nat.reduceLeDiff, Int.reduceAdd, Int.reduceSub, Int.reduceMul, Int.reduceLT, Int.reduceLE, Int.reduceEq, Int.reduceNeg, Int.reduceNe, Int.reduceGE, Int.reduceGT, Nat.reduceBEq, Int.reduceToNat,  spNew_f, spNew_t, spNew_k, takeP_eq]
    repeat (refine And.intro (by first | omega | (simp; done) | (simp; omega) | (unfold appRoom; omega)) ?_)
    refine loopI hE (fun z : Nat × List Prt × Int × Int => ⟨[(4, .ptr 0 0), (5, .sub 1 1 0 6), (6, .sub 2 2 0 z.2.1.length), (7, .v (.int .i64 z.1))], [(0, .box [.rs .byte b, .v (.int .i64 z.2.2.1), .v (.int .i64 z.2.2.2)]), (1, .row .str namL), (2, .row .prt z.2.1)], 3, Tryd.f21.ntmps⟩) (fun z => (z.1 ≤ 6 ∧ z.2.1.length ≤ z.1) ∧ (0 ≤ z.2.2.1 ∧ z.2.2.1 ≤ b.length) ∧ szPrtAll z.2.1 1000) (fun z => 6 - z.1) ⟨(0, [], 0, hashN b (min b.length 4000)), ⟨⟨by dsimp only; omega, by simp⟩, ⟨Int.le_refl 0, by dsimp only; omega⟩, fun k hk => by simp at hk⟩, SubS.weak ?_⟩ ?_
    · simp (config := { maxSteps := 2000000 }) only [go_sem, hG, hP, Nat.reduceEqDiff, ↓reduceIte, reduceCtorEq, Nat.reduceAdd, Nat.reduceSub, Nat.reduceMul, Nat.reduceLT, Nat.reduceLeDiff, Int.reduceAdd, Int.reduceSub, Int.reduceMul, Int.reduceLT, Int.reduceLE, Int.reduceEq, Int.reduceNeg, Int.reduceNe, Int.reduceGE, Int.reduceGT, Nat.reduceBEq, Int.reduceToNat,  namL]
      repeat' (first | with_reducible rfl | (refine And.intro ?_ ?_) | (refine congrArg (Value.int _) ?_; omega) | omega)
    · rintro ⟨c, l, i, h⟩ ⟨⟨c1, c2⟩, ⟨c3, c4⟩, c5⟩
      dsimp only at c1 c2 c3 c4 c5 ⊢
      by_cases hc : c < 6
      · have e1 : ((c : Int) < 6) = True := by apply eq_true; omega
        have i1 := belI_bd (b := b) (i := i) (n := 2) ⟨c3, c4⟩
        generalize hI1 : belI b i 2 = I1 at *
        generalize hH1 : belH h 2 = H1 at *
        by_cases he : belV b i h 2 = 0
        · have e2 := eq_true he
          have i2 := belI_bd (b := b) (i := I1) (n := 8) i1
          have v2 := belV_bd (b := b) (i := I1) (h := H1) (n := 8) (by omega)
          simp (config := { maxSteps := 2000000 }) only [go_sem, hG, hP, Nat.reduceEqDiff, ↓reduceIte, reduceCtorEq, Nat.reduceAdd, Nat.reduceSub, Nat.reduceMul, Nat.reduceLT, Nat.reduceLeDiff, Int.reduceAdd, Int.reduceSub, Int.reduceMul, Int.reduceLT, Int.reduceLE, Int.reduceEq, Int.reduceNeg, Int.reduceNe, Int.reduceGE, Int.reduceGT, Nat.reduceBEq, Int.reduceToNat,  e1, e2, spOnce_f, spOnce_t, spOnce_k, spPickS_f, spPickS_t, spPickS_k, takeP_eq, takeCR_eq, hI1, hH1, namL]
          (try simp (disch := omega) only [wrap_id])
          repeat' (first | (refine And.intro ?_ ?_) | (with_reducible intro _))
          all_goals first
            | omega
            | (simp; done)
            | (unfold appRoom; omega)
            | (refine ⟨(c + 1, l ++ [⟨namL.getD c ⟨#[]⟩, ([⟨#[55]⟩, ⟨#[55, 48]⟩, ⟨#[49]⟩, ⟨#[50]⟩, ⟨#[49, 50]⟩, ⟨#[57]⟩, ⟨#[57, 48]⟩, ⟨#[57, 49]⟩] : List ByteArray).getD (belV b I1 H1 8).toNat ⟨#[]⟩⟩], belI b I1 8, belH H1 8), ⟨⟨⟨by dsimp only; omega, by simp; omega⟩, i2, szPrt_app c5 ⟨strs_ok (by decide) _, strs_ok (by decide) _⟩⟩, by dsimp only; omega⟩, SubS.weak ?_⟩
               simp (config := { maxSteps := 2000000 }) only [go_sem, hG, hP, Nat.reduceEqDiff, ↓reduceIte, reduceCtorEq, Nat.reduceAdd, Nat.reduceSub, Nat.reduceMul, Nat.reduceLT, Nat.reduceLeDiff, Int.reduceAdd, Int.reduceSub, Int.reduceMul, Int.reduceLT, Int.reduceLE, Int.reduceEq, Int.reduceNeg, Int.reduceNe, Int.reduceGE, Int.reduceGT, Nat.reduceBEq, Int.reduceToNat,  namL]
               all_goals simp
               done)
            | skip
          skip
          done
        · have e2 := eq_false he
          simp (config := { maxSteps := 2000000 }) only [go_sem, hG, hP, Nat.reduceEqDiff, ↓reduceIte, reduceCtorEq, Nat.reduceAdd, Nat.reduceSub, Nat.reduceMul, Nat.reduceLT, Nat.reduceLeDiff, Int.reduceAdd, Int.reduceSub, Int.reduceMul, Int.reduceLT, Int.reduceLE, Int.reduceEq, Int.reduceNeg, Int.reduceNe, Int.reduceGE, Int.reduceGT, Nat.reduceBEq, Int.reduceToNat,  e1, e2, spOnce_f, spOnce_t, spOnce_k, spPickS_f, spPickS_t, spPickS_k, takeP_eq, takeCR_eq, hI1, hH1, namL]
          (try simp (disch := omega) only [wrap_id])
          repeat' (first | (refine And.intro ?_ ?_) | (with_reducible intro _))
          all_goals first
            | omega
            | (simp; done)
            | (refine ⟨(c + 1, l, I1, H1), ⟨⟨⟨by dsimp only; omega, by dsimp only; omega⟩, i1, c5⟩, by dsimp only; omega⟩, SubS.weak ?_⟩
               simp (config := { maxSteps := 2000000 }) only [go_sem, hG, hP, Nat.reduceEqDiff, ↓reduceIte, reduceCtorEq, Nat.reduceAdd, Nat.reduceSub, Nat.reduceMul, Nat.reduceLT, Nat.reduceLeDiff, Int.reduceAdd, Int.reduceSub, Int.reduceMul, Int.reduceLT, Int.reduceLE, Int.reduceEq, Int.reduceNeg, Int.reduceNe, Int.reduceGE, Int.reduceGT, Nat.reduceBEq, Int.reduceToNat,  namL]
               all_goals simp
               done)
            | skip
          skip
          done
      · have e1 : ((c : Int) < 6) = False := by apply eq_false; omega
        have ec : c = 6 := by omega
        have i1 := belI_bd (b := b) (i := i) (n := 20) ⟨c3, c4⟩
        generalize hV1 : belV b i h 20 = V1 at *
        generalize hI1 : belI b i 20 = I1 at *
        generalize hH1 : belH h 20 = H1 at *
        have i2 := belI_bd (b := b) (i := I1) (n := 3) i1
        have v2 := belV_bd (b := b) (i := I1) (h := H1) (n := 3) (by omega)
        generalize hV2 : belV b I1 H1 3 = V2 at *
        generalize hI2 : belI b I1 3 = I2 at *
        generalize hH2 : belH H1 3 = H2 at *
        have i3 := belI_bd (b := b) (i := I2) (n := 3) i2
        have v3 := belV_bd (b := b) (i := I2) (h := H2) (n := 3) (by omega)
        generalize hV3 : belV b I2 H2 3 = V3 at *
        generalize hI3 : belI b I2 3 = I3 at *
        generalize hH3 : belH H2 3 = H3 at *
        have i4 := belI_bd (b := b) (i := I3) (n := 9) i3
        have v4 := belV_bd (b := b) (i := I3) (h := H3) (n := 9) (by omega)
        have i5 := belI_bd (b := b) (i := I1) (n := 9) i1
        have v5 := belV_bd (b := b) (i := I1) (h := H1) (n := 9) (by omega)
        simp (config := { maxSteps := 2000000 }) only [go_sem, hG, hP, Nat.reduceEqDiff, ↓reduceIte, reduceCtorEq, Nat.reduceAdd, Nat.reduceSub, Nat.reduceMul, Nat.reduceLT, Nat.reduceLeDiff, Int.reduceAdd, Int.reduceSub, Int.reduceMul, Int.reduceLT, Int.reduceLE, Int.reduceEq, Int.reduceNeg, Int.reduceNe, Int.reduceGE, Int.reduceGT, Nat.reduceBEq, Int.reduceToNat,  e1, spOnce_f, spOnce_t, spOnce_k, spPickS_f, spPickS_t, spPickS_k, spBelow_f, spBelow_t, spBelow_k, takeP_eq, takeCR_eq, hV1, hI1, hH1, hV2, hI2, hH2, hV3, hI3, hH3, namL]
        (try simp (disch := omega) only [wrap_id])
        repeat' (first | (refine And.intro ?_ ?_) | (with_reducible intro _))
        all_goals try omega
        all_goals try (refine Or.inr ?_)
        repeat' (first | (refine And.intro ?_ ?_) | (with_reducible intro _))
        all_goals first
          | omega
          | (simp; done)
          | (unfold appRoom; omega)
          | (refine ⟨_, _, _, ?_, h0 (l ++ [⟨([⟨#[]⟩, ⟨#[120]⟩, ⟨#[49]⟩] : List ByteArray).getD V2.toNat ⟨#[]⟩, ([⟨#[]⟩, ⟨#[121]⟩, ⟨#[49]⟩] : List ByteArray).getD V3.toNat ⟨#[]⟩⟩]) (([⟨#[]⟩, ⟨#[120]⟩, ⟨#[53]⟩, ⟨#[49]⟩, ⟨#[50]⟩, ⟨#[49, 50]⟩, ⟨#[57]⟩, ⟨#[57, 48]⟩, ⟨#[57, 49]⟩] : List ByteArray).getD (belV b I3 H3 9).toNat ⟨#[]⟩) ⟨by simp; omega, szPrt_app c5 ⟨strs_ok (by decide) _, strs_ok (by decide) _⟩, strs_ok (by decide) _⟩⟩
             simp (config := { maxSteps := 2000000 }) only [go_sem, hG, hP, Nat.reduceEqDiff, ↓reduceIte, reduceCtorEq, Nat.reduceAdd, Nat.reduceSub, Nat.reduceMul, Nat.reduceLT, Nat.reduceLeDiff, Int.reduceAdd, Int.reduceSub, Int.reduceMul, Int.reduceLT, Int.reduceLE, Int.reduceEq, Int.reduceNeg, Int.reduceNe, Int.reduceGE, Int.reduceGT, Nat.reduceBEq, Int.reduceToNat]
             all_goals simp
             done)
          | (refine ⟨_, _, _, ?_, h0 (l ++ l) (([⟨#[]⟩, ⟨#[120]⟩, ⟨#[53]⟩, ⟨#[49]⟩, ⟨#[50]⟩, ⟨#[49, 50]⟩, ⟨#[57]⟩, ⟨#[57, 48]⟩, ⟨#[57, 49]⟩] : List ByteArray).getD (belV b I1 H1 9).toNat ⟨#[]⟩) ⟨by simp; omega, szPrt_dbl c5, strs_ok (by decide) _⟩⟩
             simp (config := { maxSteps := 2000000 }) only [go_sem, hG, hP, Nat.reduceEqDiff, ↓reduceIte, reduceCtorEq, Nat.reduceAdd, Nat.reduceSub, Nat.reduceMul, Nat.reduceLT, Nat.reduceLeDiff, Int.reduceAdd, Int.reduceSub, Int.reduceMul, Int.reduceLT, Int.reduceLE, Int.reduceEq, Int.reduceNeg, Int.reduceNe, Int.reduceGE, Int.reduceGT, Nat.reduceBEq, Int.reduceToNat]
             all_goals simp
             done)
          | (refine ⟨_, _, _, ?_, h0 l (([⟨#[]⟩, ⟨#[120]⟩, ⟨#[53]⟩, ⟨#[49]⟩, ⟨#[50]⟩, ⟨#[49, 50]⟩, ⟨#[57]⟩, ⟨#[57, 48]⟩, ⟨#[57, 49]⟩] : List ByteArray).getD (belV b I1 H1 9).toNat ⟨#[]⟩) ⟨by omega, c5, strs_ok (by decide) _⟩⟩
             simp (config := { maxSteps := 2000000 }) only [go_sem, hG, hP, Nat.reduceEqDiff, ↓reduceIte, reduceCtorEq, Nat.reduceAdd, Nat.reduceSub, Nat.reduceMul, Nat.reduceLT, Nat.reduceLeDiff, Int.reduceAdd, Int.reduceSub, Int.reduceMul, Int.reduceLT, Int.reduceLE, Int.reduceEq, Int.reduceNeg, Int.reduceNe, Int.reduceGE, Int.reduceGT, Nat.reduceBEq, Int.reduceToNat]
             all_goals simp
             done)
          | skip
        skip
        done
  · exact h0.elim
end Go.Proofs.YthghcialeghgoaaDoorE

/-! Presses are drawn. -/
namespace Go.Proofs.YthghcialeghgoaaDoorE
open Go Go.RowKit
set_option linter.unusedSimpArgs false
set_option linter.unusedVariables false
set_option maxRecDepth 20000
set_option maxHeartbeats 4000000

theorem szPrs_app {l : List Prs} {r : Prs} {n : Nat} (h : szPrsAll l n) (h2 : szPrsOk r n) : szPrsAll (l ++ [r]) n := fun i hi => by
  by_cases e : i < l.length
  · have := h i e
    rwa [show (l ++ [r]).getD i (⟨0, ⟨#[]⟩⟩ : Prs) = l.getD i (⟨0, ⟨#[]⟩⟩ : Prs) by simp only [List.getD, List.getElem?_append_left e]]
  · have e2 : i = l.length := by simp at hi; omega
    subst e2
    rwa [show (l ++ [r]).getD l.length (⟨0, ⟨#[]⟩⟩ : Prs) = r by simp [List.getD]]
theorem szPrs_set {l : List Prs} {x : Int} {n k : Nat} (h : szPrsAll l n) : szPrsAll (l.set k ⟨x, (l.getD k Prsz).dig⟩) n := fun i hi => by
  have hi2 : i < l.length := by simpa using hi
  have := h i hi2
  by_cases e : k = i
  · subst e
    rw [show (l.set k ⟨x, (l.getD k Prsz).dig⟩).getD k (⟨0, ⟨#[]⟩⟩ : Prs) = ⟨x, (l.getD k Prsz).dig⟩ by simp [List.getD, hi2]]
    exact this
  · rwa [show (l.set k ⟨x, (l.getD k Prsz).dig⟩).getD i (⟨0, ⟨#[]⟩⟩ : Prs) = l.getD i (⟨0, ⟨#[]⟩⟩ : Prs) by simp [List.getD, List.getElem?_set, e]]
def spDrawOver : Spec := ⟨fun _ _ => [], fun args objs K => match args, objs with
  | [.rs .byte b], [] => b.length ≤ 1099511627776 ∧
      ∀ (l : List Rul) (ps : List Prs) (w : Int), l.length ≤ 7 ∧ szRulAll l 1000 ∧ ps.length ≤ 2000 ∧ szPrsAll ps 1000 → K (.tup [.sub 0 6 0 l.length, .sub 1 2 0 ps.length, .v (.int .i64 w)]) [(0, .row .rule l), (1, .row .prs ps)] 2
  | _, _ => False, false⟩
theorem spDrawOver_t {L : Hp} {a : List AVal} : Spec.take spDrawOver L a = [] := id rfl
theorem spDrawOver_k : Spec.keep spDrawOver = false := id rfl
theorem spDrawOver_f {b} {K : AVal → Hp → Nat → Prop} : Spec.f spDrawOver ([.rs .byte b]) ([]) K = (b.length ≤ 1099511627776 ∧
      ∀ (l : List Rul) (ps : List Prs) (w : Int), l.length ≤ 7 ∧ szRulAll l 1000 ∧ ps.length ≤ 2000 ∧ szPrsAll ps 1000 → K (.tup [.sub 0 6 0 l.length, .sub 1 2 0 ps.length, .v (.int .i64 w)]) [(0, .row .rule l), (1, .row .prs ps)] 2) := id rfl
theorem valid27 : Valid Tryd.prog 27 spDrawOver := by
  refine validI (Γ := lk [(43, spNew), (44, spOnce), (46, spBelow), (53, spAny), (54, spDialled), (55, spPickN)]) Tryd.func27 bod27 low27 res27 (good_of ⟨⟨cal43, valid43⟩, ⟨cal44, valid44⟩, ⟨cal46, valid46⟩, ⟨cal53, valid53⟩, ⟨cal54, valid54⟩, ⟨cal55, valid55⟩, trivial⟩) ?_
  intro E args objs K h0 hE hG hP
  simp only [spDrawOver] at h0
  split at h0
  · refine ⟨by simp [Tryd.ntmps27], ?_⟩
    rename_i b
    obtain ⟨b1, h0⟩ := h0
    simp (config := { maxSteps := 2000000 }) only [go_sem, hG, hP, Nat.reduceEqDiff, ↓reduceIte, reduceCtorEq, Nat.reduceAdd, Nat.reduceSub, Nat.reduceMul, Nat.reduceLT, Nat.reduceLeDiff, Int.reduceAdd, Int.reduceSub, Int.reduceMul, Int.reduceLT, Int.reduceLE, Int.reduceEq, Int.reduceNeg, Int.reduceNe, Int.reduceGE, Int.reduceGT, Nat.reduceBEq, Int.reduceToNat,  spNew_f, spNew_t, spNew_k, spAny_f, spAny_t, spAny_k, spDialled_f, spDialled_t, spDialled_k, spBelow_f, spBelow_t, spBelow_k, takeP_eq, takeCR_eq]
    repeat (refine And.intro (by first | omega | (simp; done) | (simp; omega) | (unfold appRoom; omega)) ?_)
    rintro l I ⟨⟨i1, i2⟩, l7, ls⟩
    repeat (refine And.intro (by first | omega | exact ⟨⟨i1, i2, b1⟩, by omega, ls⟩ | exact ls) ?_)
    rintro s I2 H2 ⟨⟨i3, i4⟩, q2⟩
    repeat (refine And.intro (by first | omega | (simp; done) | (simp; omega) | (unfold appRoom; omega)) ?_)
    have i5 := belI_bd (b := b) (i := I2) (n := 50) ⟨i3, i4⟩
    refine loopI hE (fun z : Nat × List Prs × Int × Int × Int => ⟨[(5, .ptr 0 0), (6, .sub 1 6 0 l.length), (7, .v (.string s)), (8, .sub 2 2 0 z.2.1.length), (9, .v (.int .i64 z.2.2.2.2)), (10, .v (.int .i64 z.1))], [(0, .box [.rs .byte b, .v (.int .i64 z.2.2.1), .v (.int .i64 z.2.2.2.1)]), (1, .row .rule l), (2, .row .prs z.2.1)], 3, Tryd.f27.ntmps⟩) (fun z => (z.1 ≤ s.size ∧ z.2.1.length = z.1) ∧ (0 ≤ z.2.2.1 ∧ z.2.2.1 ≤ b.length) ∧ szPrsAll z.2.1 1000) (fun z => s.size - z.1) ⟨(0, [], belI b I2 50, belH H2 50, belV b I2 H2 50), ⟨⟨Nat.zero_le _, rfl⟩, i5, fun k hk => by simp at hk⟩, SubS.weak ?_⟩ ?_
    · simp (config := { maxSteps := 2000000 }) only [go_sem, hG, hP, Nat.reduceEqDiff, ↓reduceIte, reduceCtorEq, Nat.reduceAdd, Nat.reduceSub, Nat.reduceMul, Nat.reduceLT, Nat.reduceLeDiff, Int.reduceAdd, Int.reduceSub, Int.reduceMul, Int.reduceLT, Int.reduceLE, Int.reduceEq, Int.reduceNeg, Int.reduceNe, Int.reduceGE, Int.reduceGT, Nat.reduceBEq, Int.reduceToNat]
      repeat' (first | with_reducible rfl | (refine And.intro ?_ ?_) | (refine congrArg (Value.int _) ?_; omega) | omega)
    · rintro ⟨c, ps, i, h, tk⟩ ⟨⟨c1, c2⟩, ⟨c3, c4⟩, c5⟩
      dsimp only at c1 c2 c3 c4 c5 ⊢
      by_cases hc : c < s.size
      · have e1 : ((c : Int) < s.size) = True := by apply eq_true; omega
        have w1 : wr .i64 ((c : Int) + 1) = (c : Int) + 1 := wrap_id (by omega) (by omega)
        have i6 := belI_bd (b := b) (i := i) (n := 12) ⟨c3, c4⟩
        have hx : (s.extract c (c + 1)).size ≤ 1000 := by rw [ByteArray.size_extract]; omega
        have t1 : ((c : Int) + 1).toNat = c + 1 := by omega
        simp (config := { maxSteps := 2000000 }) only [go_sem, hG, hP, Nat.reduceEqDiff, ↓reduceIte, reduceCtorEq, Nat.reduceAdd, Nat.reduceSub, Nat.reduceMul, Nat.reduceLT, Nat.reduceLeDiff, Int.reduceAdd, Int.reduceSub, Int.reduceMul, Int.reduceLT, Int.reduceLE, Int.reduceEq, Int.reduceNeg, Int.reduceNe, Int.reduceGE, Int.reduceGT, Nat.reduceBEq, Int.reduceToNat,  e1, w1, t1, spBelow_f, spBelow_t, spBelow_k, takeP_eq]
        repeat' (first | (refine And.intro ?_ ?_) | (with_reducible intro _))
        all_goals first
          | omega
          | (simp; done)
          | (unfold appRoom; omega)
          | (refine ⟨(c + 1, ps ++ [⟨tk, s.extract c (c + 1)⟩], belI b i 12, belH h 12, wr .i64 (tk + belV b i h 12)), ⟨⟨⟨by dsimp only; omega, by simp; omega⟩, i6, szPrs_app (r := ⟨tk, s.extract c (c + 1)⟩) c5 hx⟩, by dsimp only; omega⟩, SubS.weak ?_⟩
             simp (config := { maxSteps := 2000000 }) only [go_sem, hG, hP, Nat.reduceEqDiff, ↓reduceIte, reduceCtorEq, Nat.reduceAdd, Nat.reduceSub, Nat.reduceMul, Nat.reduceLT, Nat.reduceLeDiff, Int.reduceAdd, Int.reduceSub, Int.reduceMul, Int.reduceLT, Int.reduceLE, Int.reduceEq, Int.reduceNeg, Int.reduceNe, Int.reduceGE, Int.reduceGT, Nat.reduceBEq, Int.reduceToNat]
             all_goals simp
             done)
          | skip
        skip
        done
      · have e1 : ((c : Int) < s.size) = False := by apply eq_false; omega
        have i6 := belI_bd (b := b) (i := i) (n := 30) ⟨c3, c4⟩
        generalize hV6 : belV b i h 30 = V6 at *
        generalize hI6 : belI b i 30 = I6 at *
        generalize hH6 : belH h 30 = H6 at *
        have i7 := belI_bd (b := b) (i := I6) (n := 3) i6
        have v7 := belV_bd (b := b) (i := I6) (h := H6) (n := 3) (by omega)
        generalize hV7 : belV b I6 H6 3 = V7 at *
        generalize hI7 : belI b I6 3 = I7 at *
        generalize hH7 : belH H6 3 = H7 at *
        have i8 := belI_bd (b := b) (i := I7) (n := 8) i7
        have v8 := belV_bd (b := b) (i := I7) (h := H7) (n := 8) (by omega)
        have i9 := belI_bd (b := b) (i := I6) (n := 8) i6
        have v9 := belV_bd (b := b) (i := I6) (h := H6) (n := 8) (by omega)
        have key : ∀ (r : Prs) (w : Int), szPrsAll (ps.set 0 r) 1000 → K (.tup [.sub 0 6 0 l.length, .sub 1 2 0 ps.length, .v (.int .i64 w)]) [(0, .row .rule l), (1, .row .prs (ps.set 0 r))] 2 := fun r w q => by
          have := h0 l (ps.set 0 r) w ⟨l7, ls, by simp; omega, q⟩
          simpa using this
        simp (config := { maxSteps := 2000000 }) only [go_sem, hG, hP, Nat.reduceEqDiff, ↓reduceIte, reduceCtorEq, Nat.reduceAdd, Nat.reduceSub, Nat.reduceMul, Nat.reduceLT, Nat.reduceLeDiff, Int.reduceAdd, Int.reduceSub, Int.reduceMul, Int.reduceLT, Int.reduceLE, Int.reduceEq, Int.reduceNeg, Int.reduceNe, Int.reduceGE, Int.reduceGT, Nat.reduceBEq, Int.reduceToNat,  e1, spOnce_f, spOnce_t, spOnce_k, spPickN_f, spPickN_t, spPickN_k, takeP_eq, takeCR_eq, hV6, hI6, hH6, hV7, hI7, hH7]
        repeat' (first | (refine And.intro ?_ ?_) | (with_reducible intro _))
        all_goals first
          | omega
          | (simp; done)
          | (simp; omega)
          | (unfold appRoom; omega)
          | (refine ⟨_, _, _, ?_, key ⟨([-1, 1000000000, 1000000001] : List Int).getD V7.toNat 0, (ps.getD 0 Prsz).dig⟩ (([5, 9, 10, 20, 1000, 0, 1001, 11] : List Int).getD (belV b I7 H7 8).toNat 0) (szPrs_set c5)⟩
             simp (config := { maxSteps := 2000000 }) only [go_sem, hG, hP, Nat.reduceEqDiff, ↓reduceIte, reduceCtorEq, Nat.reduceAdd, Nat.reduceSub, Nat.reduceMul, Nat.reduceLT, Nat.reduceLeDiff, Int.reduceAdd, Int.reduceSub, Int.reduceMul, Int.reduceLT, Int.reduceLE, Int.reduceEq, Int.reduceNeg, Int.reduceNe, Int.reduceGE, Int.reduceGT, Nat.reduceBEq, Int.reduceToNat]
             all_goals simp
             done)
          | (refine ⟨_, _, _, ?_, h0 l ps (([5, 9, 10, 20, 1000, 0, 1001, 11] : List Int).getD (belV b I6 H6 8).toNat 0) ⟨l7, ls, by omega, c5⟩⟩
             simp (config := { maxSteps := 2000000 }) only [go_sem, hG, hP, Nat.reduceEqDiff, ↓reduceIte, reduceCtorEq, Nat.reduceAdd, Nat.reduceSub, Nat.reduceMul, Nat.reduceLT, Nat.reduceLeDiff, Int.reduceAdd, Int.reduceSub, Int.reduceMul, Int.reduceLT, Int.reduceLE, Int.reduceEq, Int.reduceNeg, Int.reduceNe, Int.reduceGE, Int.reduceGT, Nat.reduceBEq, Int.reduceToNat]
             all_goals simp
             done)
          | skip
        skip
        done
  · exact h0.elim
end Go.Proofs.YthghcialeghgoaaDoorE

/-! The code of a function, in the engine's words. -/
namespace Go.Proofs.YthghcialeghgoaaDoorE
open Go Go.RowKit
@[reducible] def ic5 : IC := (.seq (.ops [⟨some 2, .mov (.const (.bool false)), none⟩]) (.seq (.seq (.ops [⟨some 14, .mov (.tmp 0), none⟩, ⟨some 15, .call 20 [(.tmp 14)], none⟩]) (.cond (.tmp 15) (.seq (.ops [⟨some 2, .mov (.const (.bool true)), none⟩]) .ret) .skip)) (.seq (.ops [⟨some 17, .mov (.tmp 0), none⟩, ⟨some 18, .call 21 [(.tmp 17)], none⟩, ⟨some 16, .mov (.tmp 18), none⟩, ⟨some 19, .ext (.tmp 16) 0, none⟩, ⟨some 20, .ext (.tmp 16) 1, none⟩, ⟨some 3, .mov (.tmp 19), none⟩, ⟨some 4, .mov (.tmp 20), none⟩]) (.seq (.ops [⟨some 22, .mov (.tmp 3), none⟩, ⟨some 23, .mov (.tmp 4), none⟩, ⟨some 24, .call 18 [(.tmp 22), (.tmp 23)], none⟩, ⟨some 21, .mov (.tmp 24), none⟩, ⟨some 25, .ext (.tmp 21) 0, none⟩, ⟨some 26, .ext (.tmp 21) 1, none⟩, ⟨some 5, .mov (.tmp 25), none⟩, ⟨some 6, .mov (.tmp 26), none⟩]) (.seq (.seq (.ops [⟨some 28, .mov (.tmp 3), none⟩, ⟨some 29, .mov (.tmp 4), none⟩, ⟨some 30, .call 16 [(.tmp 28), (.tmp 29)], none⟩, ⟨some 27, .mov (.tmp 30), none⟩, ⟨some 31, .ext (.tmp 27) 0, none⟩, ⟨some 32, .ext (.tmp 27) 1, none⟩, ⟨some 7, .mov (.tmp 31), none⟩, ⟨some 8, .mov (.tmp 32), none⟩]) (.seq (.ops [⟨some 33, .mov (.tmp 5), none⟩, ⟨some 34, .mov (.tmp 7), none⟩, ⟨some 35, .bin .neq (.tmp 33) (.tmp 34), none⟩, ⟨some 36, .mov (.tmp 35), none⟩, ⟨some 37, .mov (.tmp 6), some (36, false)⟩, ⟨some 38, .mov (.tmp 8), some (36, false)⟩, ⟨some 39, .beq true (.tmp 37) (.tmp 38), some (36, false)⟩, ⟨some 40, .pick (.tmp 36) (.const (.bool true)) (.tmp 39), none⟩]) (.cond (.tmp 40) (.seq (.ops [⟨some 2, .mov (.const (.bool false)), none⟩]) .ret) .skip))) (.seq (.ops [⟨some 42, .bld [(.string ⟨#[]⟩), (.string ⟨#[]⟩)] [(0, 1, (.const (.string ⟨#[49]⟩))), (1, 1, (.const (.string ⟨#[50]⟩)))], none⟩, ⟨some 43, .blds .prt 1 [(0, 2, (.tmp 42))], none⟩, ⟨some 44, .call 18 [(.tmp 43), (.const (.string ⟨#[49]⟩))], none⟩, ⟨some 41, .mov (.tmp 44), none⟩, ⟨some 45, .ext (.tmp 41) 0, none⟩, ⟨some 46, .ext (.tmp 41) 1, none⟩, ⟨some 9, .mov (.tmp 45), none⟩, ⟨some 10, .mov (.tmp 46), none⟩]) (.seq (.seq (.ops [⟨some 47, .mov (.tmp 10), none⟩, ⟨some 48, .una .not (.tmp 47), none⟩, ⟨some 49, .mov (.tmp 48), none⟩, ⟨some 50, .mov (.tmp 9), some (49, false)⟩, ⟨some 51, .bin .neq (.tmp 50) (.const (.string ⟨#[50]⟩)), some (49, false)⟩, ⟨some 52, .pick (.tmp 49) (.const (.bool true)) (.tmp 51), none⟩]) (.cond (.tmp 52) (.seq (.ops [⟨some 2, .mov (.const (.bool false)), none⟩]) .ret) .skip)) (.seq (.seq (.ops [⟨some 53, .mov (.tmp 6), none⟩, ⟨some 54, .una .not (.tmp 53), none⟩]) (.cond (.tmp 54) (.seq (.ops [⟨some 55, .mov (.tmp 5), none⟩, ⟨some 56, .bin .eql (.tmp 55) (.const (.string ⟨#[]⟩)), none⟩, ⟨some 57, .mov (.tmp 56), none⟩, ⟨some 58, .mov (.tmp 5), some (57, false)⟩, ⟨some 59, .mov (.tmp 4), some (57, false)⟩, ⟨some 60, .bin .eql (.tmp 58) (.tmp 59), some (57, false)⟩, ⟨some 61, .pick (.tmp 57) (.const (.bool true)) (.tmp 60), none⟩, ⟨some 2, .mov (.tmp 61), none⟩]) .ret) .skip)) (.seq (.seq (.ops [⟨some 11, .mov (.const (.int .i64 0)), none⟩]) (.block 0 (.loop (.seq (.seq (.ops [⟨some 62, .mov (.tmp 11), none⟩, ⟨some 63, .mov (.tmp 3), none⟩, ⟨some 64, .len (.tmp 63), none⟩, ⟨some 65, .bin .lss (.tmp 62) (.tmp 64), none⟩]) (.cond (.tmp 65) .skip (.exit 0))) (.seq (.block 1 (.seq (.ops [⟨some 68, .mov (.tmp 3), none⟩, ⟨some 69, .mov (.tmp 11), none⟩, ⟨some 70, .iadr 2 (.tmp 68) (.tmp 69), none⟩, ⟨some 71, .fadr 0 (.tmp 70), none⟩, ⟨some 72, .load 1 false (.tmp 71), none⟩, ⟨some 73, .mov (.tmp 5), none⟩, ⟨some 74, .bin .eql (.tmp 72) (.tmp 73), none⟩]) (.cond (.tmp 74) (.seq (.ops [⟨some 2, .mov (.const (.bool false)), none⟩]) .ret) .skip))) (.ops [⟨some 66, .mov (.tmp 11), none⟩, ⟨some 67, .bin .add (.tmp 66) (.const (.int .i64 1)), none⟩, ⟨some 11, .mov (.tmp 67), none⟩])))))) (.seq (.ops [⟨some 76, .mov (.tmp 3), none⟩, ⟨some 77, .mov (.tmp 5), none⟩, ⟨some 78, .call 18 [(.tmp 76), (.tmp 77)], none⟩, ⟨some 75, .mov (.tmp 78), none⟩, ⟨some 79, .ext (.tmp 75) 0, none⟩, ⟨some 80, .ext (.tmp 75) 1, none⟩, ⟨some 12, .mov (.tmp 79), none⟩, ⟨some 13, .mov (.tmp 80), none⟩]) (.seq (.ops [⟨some 81, .mov (.tmp 13), none⟩, ⟨some 82, .mov (.tmp 81), none⟩, ⟨some 83, .mov (.tmp 12), some (82, true)⟩, ⟨some 84, .mov (.tmp 5), some (82, true)⟩, ⟨some 85, .bin .eql (.tmp 83) (.tmp 84), some (82, true)⟩, ⟨some 86, .pick (.tmp 82) (.tmp 85) (.const (.bool false)), none⟩, ⟨some 2, .mov (.tmp 86), none⟩]) .ret)))))))))))
@[reducible] def rv5 : List RV := [.tmp 2]
theorem low5 : lowC Tryd.prog tau Tryd.f5.ntmps (Tryd.f5.body.getD .skip) = some (erase ic5) := by kernel_rfl
theorem res5 : lowR Tryd.prog Tryd.f5.results.toList = some rv5 := by kernel_rfl
theorem bod5 : Tryd.f5.body = some (Tryd.f5.body.getD .skip) := by kernel_rfl
theorem cal5 : callable Tryd.prog 5 = true := by kernel_rfl

end Go.Proofs.YthghcialeghgoaaDoorE

/-! The law of ported numbers. -/
namespace Go.Proofs.YthghcialeghgoaaDoorE
open Go Go.RowKit
set_option linter.unusedSimpArgs false
set_option linter.unusedVariables false
set_option maxRecDepth 20000
set_option maxHeartbeats 4000000

theorem stepsV_end {l : List Prt} {n : ByteArray} (ht : ∀ k, k < l.length → digsP (l.getD k Prtz).to) : ∀ (k : Nat) (now : ByteArray), digsP now →
    ((stepsV l n k now).2 = false → (stepsV l n k now).1 = n) ∧ ((stepsV l n k now).2 = true → findT l (stepsV l n k now).1 l.length < 0 ∧ digsP (stepsV l n k now).1)
  | 0, now, hd => ⟨fun _ => rfl, fun h => by simp [stepsV] at h⟩
  | k + 1, now, hd => by
    rw [stepsV]
    split
    · rename_i c
      exact ⟨fun h => by simp at h, fun _ => ⟨c, hd⟩⟩
    · rename_i c
      have := findT_bd l now l.length
      exact stepsV_end ht k _ (ht _ (by omega))
theorem portV_end (l : List Prt) (n : ByteArray) : ((portV l n).2 = false → (portV l n).1 = ⟨#[]⟩ ∨ (portV l n).1 = n) ∧
    ((portV l n).2 = true → (∀ k, k < l.length → (l.getD k Prtz).num ≠ (portV l n).1) ∧ digsP (portV l n).1 ∧ portV l (portV l n).1 = ((portV l n).1, true)) := by
  by_cases h : portOk l n
  · have ht : ∀ k, k < l.length → digsP (l.getD k Prtz).to := fun k hk => (h.2.2 k hk).1.2.1
    rw [portV_yes h]
    obtain ⟨h1, h2⟩ := stepsV_end (n := n) ht (l.length + 1) n h.2.1
    refine ⟨fun e => .inr (h1 e), fun e => ?_⟩
    obtain ⟨h3, h4⟩ := h2 e
    generalize (stepsV l n (l.length + 1) n).1 = a at *
    have hok : portOk l a := ⟨h.1, h4, h.2.2⟩
    rw [portV_yes hok, stepsV, if_pos h3]
    exact ⟨findT_no.1 h3, h4, rfl⟩
  · rw [portV_no h]
    exact ⟨fun _ => .inl rfl, fun e => by simp at e⟩
theorem digs_one (c : UInt8) (h : digV c.toNat = true) : digsP ⟨#[c]⟩ := ⟨by show 1 ≤ 20; omega, fun i hi => by
  have : i < 1 := hi
  obtain rfl : i = 0 := by omega
  exact h⟩
theorem portV_one : portV [⟨⟨#[49]⟩, ⟨#[50]⟩⟩] ⟨#[49]⟩ = (⟨#[50]⟩, true) := by
  have d1 : digsP ⟨#[49]⟩ := digs_one 49 (by decide)
  have d2 : digsP ⟨#[50]⟩ := digs_one 50 (by decide)
  have h : portOk [⟨⟨#[49]⟩, ⟨#[50]⟩⟩] ⟨#[49]⟩ := ⟨by simp, d1, fun j hj => by
    obtain rfl : j = 0 := by simp at hj; omega
    exact ⟨⟨d1, d2, by decide, by decide⟩, fun k hk => by omega⟩⟩
  rw [portV_yes h]
  rfl
def spLaw5 : Spec := ⟨fun _ _ => [], fun args objs K => match args, objs with
  | [.rs .byte b], [] => bytesP b ∧ K (.v (.bool true)) [] 0
  | _, _ => False, false⟩
theorem spLaw5_t {L : Hp} {a : List AVal} : Spec.take spLaw5 L a = [] := id rfl
theorem spLaw5_k : Spec.keep spLaw5 = false := id rfl
theorem spLaw5_f {b} {K : AVal → Hp → Nat → Prop} : Spec.f spLaw5 ([.rs .byte b]) ([]) K = (bytesP b ∧ K (.v (.bool true)) [] 0) := id rfl
theorem valid5 : Valid Tryd.prog 5 spLaw5 := by
  refine validI (Γ := lk [(16, spPort), (18, spPort), (20, spBig), (21, spDrawPort)]) Tryd.func5 bod5 low5 res5 (good_of ⟨⟨cal16, valid16⟩, ⟨cal18, valid18⟩, ⟨cal20, valid20⟩, ⟨cal21, valid21⟩, trivial⟩) ?_
  intro E args objs K h0 hE hG hP
  simp only [spLaw5] at h0
  split at h0
  · refine ⟨by simp [Tryd.ntmps5], ?_⟩
    rename_i b
    obtain ⟨hb, h0⟩ := h0
    by_cases hbig : (b.length : Int) > 1048576
    · have e1 := eq_true hbig
      simp (config := { maxSteps := 2000000 }) only [go_sem, hG, hP, Nat.reduceEqDiff, ↓reduceIte, reduceCtorEq, Nat.reduceAdd, Nat.reduceSub, Nat.reduceMul, Nat.reduceLT, Nat.reduceLeDiff, Int.reduceAdd, Int.reduceSub, Int.reduceMul, Int.reduceLT, Int.reduceLE, Int.reduceEq, Int.reduceNeg, Int.reduceNe, Int.reduceGE, Int.reduceGT, Nat.reduceBEq, Int.reduceToNat,  spBig_f, spBig_t, spBig_k, e1]
      refine ⟨_, _, _, ?_, h0⟩
      simp (config := { maxSteps := 2000000 }) only [go_sem, hG, hP, Nat.reduceEqDiff, ↓reduceIte, reduceCtorEq, Nat.reduceAdd, Nat.reduceSub, Nat.reduceMul, Nat.reduceLT, Nat.reduceLeDiff, Int.reduceAdd, Int.reduceSub, Int.reduceMul, Int.reduceLT, Int.reduceLE, Int.reduceEq, Int.reduceNeg, Int.reduceNe, Int.reduceGE, Int.reduceGT, Nat.reduceBEq, Int.reduceToNat]
    · have e1 := eq_false hbig
      simp (config := { maxSteps := 2000000 }) only [go_sem, hG, hP, Nat.reduceEqDiff, ↓reduceIte, reduceCtorEq, Nat.reduceAdd, Nat.reduceSub, Nat.reduceMul, Nat.reduceLT, Nat.reduceLeDiff, Int.reduceAdd, Int.reduceSub, Int.reduceMul, Int.reduceLT, Int.reduceLE, Int.reduceEq, Int.reduceNeg, Int.reduceNe, Int.reduceGE, Int.reduceGT, Nat.reduceBEq, Int.reduceToNat,  spBig_f, spBig_t, spBig_k, spDrawPort_f, spDrawPort_t, spDrawPort_k, e1]
      repeat (refine And.intro (by first | omega | (simp; done) | (simp; omega) | (unfold appRoom; omega)) ?_)
      rintro l n ⟨l1, l2, l3⟩
      obtain ⟨p1, p2⟩ := portV_end l n
      have l4 : szPrtAll l 140737488351232 := fun i hi => ⟨Nat.le_trans (l2 i hi).1 (by omega), Nat.le_trans (l2 i hi).2 (by omega)⟩
      have l5 := eq_true l4
      have l6 : (l.length ≤ 1099511627776) = True := eq_true (by omega)
      have l7 : (n.size ≤ 140737488351232) = True := eq_true (by omega)
      have s5 : szPrtAll [⟨⟨#[49]⟩, ⟨#[50]⟩⟩] 140737488351232 = True := eq_true fun i hi => by
        obtain rfl : i = 0 := by simp at hi; omega
        exact ⟨by decide, by decide⟩
      generalize hV : portV l n = V at *
      obtain ⟨a, ok⟩ := V
      cases ok with
      | false =>
        have p3 := p1 rfl
        dsimp only at p3
        rcases p3 with rfl | rfl
        · simp (config := { maxSteps := 2000000 }) only [go_sem, hG, hP, Nat.reduceEqDiff, ↓reduceIte, reduceCtorEq, Nat.reduceAdd, Nat.reduceSub, Nat.reduceMul, Nat.reduceLT, Nat.reduceLeDiff, Int.reduceAdd, Int.reduceSub, Int.reduceMul, Int.reduceLT, Int.reduceLE, Int.reduceEq, Int.reduceNeg, Int.reduceNe, Int.reduceGE, Int.reduceGT, Nat.reduceBEq, Int.reduceToNat,  spPort_f, spPort_t, spPort_k, l5, l6, l7, s5, hV, portV_one, bb_self]
          (try simp (disch := omega) only [wrap_id])
          repeat' (first | (refine And.intro ?_ ?_) | (with_reducible intro _))
          all_goals first
            | omega
            | (simp; done)
            | (refine ⟨_, _, _, ?_, h0⟩; simp (config := { maxSteps := 2000000 }) only [go_sem, hG, hP, Nat.reduceEqDiff, ↓reduceIte, reduceCtorEq, Nat.reduceAdd, Nat.reduceSub, Nat.reduceMul, Nat.reduceLT, Nat.reduceLeDiff, Int.reduceAdd, Int.reduceSub, Int.reduceMul, Int.reduceLT, Int.reduceLE, Int.reduceEq, Int.reduceNeg, Int.reduceNe, Int.reduceGE, Int.reduceGT, Nat.reduceBEq, Int.reduceToNat]; done)
            | (exfalso; simp_all; done)
            | skip
          skip
          done
        · simp (config := { maxSteps := 2000000 }) only [go_sem, hG, hP, Nat.reduceEqDiff, ↓reduceIte, reduceCtorEq, Nat.reduceAdd, Nat.reduceSub, Nat.reduceMul, Nat.reduceLT, Nat.reduceLeDiff, Int.reduceAdd, Int.reduceSub, Int.reduceMul, Int.reduceLT, Int.reduceLE, Int.reduceEq, Int.reduceNeg, Int.reduceNe, Int.reduceGE, Int.reduceGT, Nat.reduceBEq, Int.reduceToNat,  spPort_f, spPort_t, spPort_k, l5, l6, l7, s5, hV, portV_one, bb_self]
          (try simp (disch := omega) only [wrap_id])
          repeat' (first | (refine And.intro ?_ ?_) | (with_reducible intro _))
          all_goals first
            | omega
            | (simp; done)
            | (refine ⟨_, _, _, ?_, h0⟩; simp (config := { maxSteps := 2000000 }) only [go_sem, hG, hP, Nat.reduceEqDiff, ↓reduceIte, reduceCtorEq, Nat.reduceAdd, Nat.reduceSub, Nat.reduceMul, Nat.reduceLT, Nat.reduceLeDiff, Int.reduceAdd, Int.reduceSub, Int.reduceMul, Int.reduceLT, Int.reduceLE, Int.reduceEq, Int.reduceNeg, Int.reduceNe, Int.reduceGE, Int.reduceGT, Nat.reduceBEq, Int.reduceToNat]; done)
            | (refine ⟨_, _, _, ?_, h0⟩; simp (config := { maxSteps := 2000000 }) only [go_sem, hG, hP, Nat.reduceEqDiff, ↓reduceIte, reduceCtorEq, Nat.reduceAdd, Nat.reduceSub, Nat.reduceMul, Nat.reduceLT, Nat.reduceLeDiff, Int.reduceAdd, Int.reduceSub, Int.reduceMul, Int.reduceLT, Int.reduceLE, Int.reduceEq, Int.reduceNeg, Int.reduceNe, Int.reduceGE, Int.reduceGT, Nat.reduceBEq, Int.reduceToNat]; all_goals (simp; done))
            | (exfalso; simp_all; done)
            | skip
          skip
          done
      | true =>
        obtain ⟨q1, q2, q3⟩ := p2 rfl
        dsimp only at q1 q2 q3
        simp (config := { maxSteps := 2000000 }) only [go_sem, hG, hP, Nat.reduceEqDiff, ↓reduceIte, reduceCtorEq, Nat.reduceAdd, Nat.reduceSub, Nat.reduceMul, Nat.reduceLT, Nat.reduceLeDiff, Int.reduceAdd, Int.reduceSub, Int.reduceMul, Int.reduceLT, Int.reduceLE, Int.reduceEq, Int.reduceNeg, Int.reduceNe, Int.reduceGE, Int.reduceGT, Nat.reduceBEq, Int.reduceToNat,  spPort_f, spPort_t, spPort_k, l5, l6, l7, s5, hV, portV_one, bb_self]
        (try simp (disch := omega) only [wrap_id])
        repeat (refine And.intro (by first | omega | (simp; done) | (simp; omega) | (unfold appRoom; omega)) ?_)
        repeat (first | (with_reducible intro _) | (refine And.intro (by first | (simp; done) | decide) ?_))
        refine loopI hE (fun i : Nat => ⟨[(3, .sub 0 2 0 l.length), (5, .v (.string a)), (11, .v (.int .i64 i))], [(0, .row .prt l)], 1, Tryd.f5.ntmps⟩) (fun i => i ≤ l.length) (fun i => l.length - i) ⟨0, Nat.zero_le _, SubS.weak ?_⟩ ?_
        · simp (config := { maxSteps := 2000000 }) only [go_sem, hG, hP, Nat.reduceEqDiff, ↓reduceIte, reduceCtorEq, Nat.reduceAdd, Nat.reduceSub, Nat.reduceMul, Nat.reduceLT, Nat.reduceLeDiff, Int.reduceAdd, Int.reduceSub, Int.reduceMul, Int.reduceLT, Int.reduceLE, Int.reduceEq, Int.reduceNeg, Int.reduceNe, Int.reduceGE, Int.reduceGT, Nat.reduceBEq, Int.reduceToNat]
          repeat' (first | with_reducible rfl | (refine And.intro ?_ ?_) | (refine congrArg (Value.int _) ?_; omega) | omega)
        · intro i hi
          dsimp only at hi ⊢
          by_cases hi2 : i < l.length
          · have e2 : ((i : Int) < l.length) = True := by apply eq_true; omega
            have q4 := q1 i hi2
            dsimp only [Prtz] at q4
            have e3 := eq_false q4
            simp (config := { maxSteps := 2000000 }) only [go_sem, hG, hP, Nat.reduceEqDiff, ↓reduceIte, reduceCtorEq, Nat.reduceAdd, Nat.reduceSub, Nat.reduceMul, Nat.reduceLT, Nat.reduceLeDiff, Int.reduceAdd, Int.reduceSub, Int.reduceMul, Int.reduceLT, Int.reduceLE, Int.reduceEq, Int.reduceNeg, Int.reduceNe, Int.reduceGE, Int.reduceGT, Nat.reduceBEq, Int.reduceToNat,  e2, e3]
            (try simp (disch := omega) only [wrap_id])
            repeat' (first | (refine And.intro ?_ ?_) | (with_reducible intro _))
            all_goals first
              | omega
              | (refine ⟨i + 1, ⟨by omega, by omega⟩, SubS.weak ?_⟩
                 simp (config := { maxSteps := 2000000 }) only [go_sem, hG, hP, Nat.reduceEqDiff, ↓reduceIte, reduceCtorEq, Nat.reduceAdd, Nat.reduceSub, Nat.reduceMul, Nat.reduceLT, Nat.reduceLeDiff, Int.reduceAdd, Int.reduceSub, Int.reduceMul, Int.reduceLT, Int.reduceLE, Int.reduceEq, Int.reduceNeg, Int.reduceNe, Int.reduceGE, Int.reduceGT, Nat.reduceBEq, Int.reduceToNat]
                 repeat' (first | with_reducible rfl | (refine And.intro ?_ ?_) | (refine congrArg (Value.int _) ?_; omega) | omega)
                 done)
              | skip
            skip
            done
          · have e2 : ((i : Int) < l.length) = False := by apply eq_false; omega
            have e4 : (a.size ≤ 140737488351232) = True := eq_true (by have := q2.1; omega)
            simp (config := { maxSteps := 2000000 }) only [go_sem, hG, hP, Nat.reduceEqDiff, ↓reduceIte, reduceCtorEq, Nat.reduceAdd, Nat.reduceSub, Nat.reduceMul, Nat.reduceLT, Nat.reduceLeDiff, Int.reduceAdd, Int.reduceSub, Int.reduceMul, Int.reduceLT, Int.reduceLE, Int.reduceEq, Int.reduceNeg, Int.reduceNe, Int.reduceGE, Int.reduceGT, Nat.reduceBEq, Int.reduceToNat,  e2, spPort_f, spPort_t, spPort_k, l5, l6, e4, q3]
            (try simp (disch := omega) only [wrap_id])
            repeat' (first | (refine And.intro ?_ ?_) | (with_reducible intro _))
            all_goals first
              | omega
              | (simp; done)
              | (refine ⟨_, _, _, ?_, h0⟩; simp (config := { maxSteps := 2000000 }) only [go_sem, hG, hP, Nat.reduceEqDiff, ↓reduceIte, reduceCtorEq, Nat.reduceAdd, Nat.reduceSub, Nat.reduceMul, Nat.reduceLT, Nat.reduceLeDiff, Int.reduceAdd, Int.reduceSub, Int.reduceMul, Int.reduceLT, Int.reduceLE, Int.reduceEq, Int.reduceNeg, Int.reduceNe, Int.reduceGE, Int.reduceGT, Nat.reduceBEq, Int.reduceToNat]; done)
              | skip
            skip
            done
  · exact h0.elim
end Go.Proofs.YthghcialeghgoaaDoorE

/-! Dialling one digit more, plainly; what overlapping ends with. -/
namespace Go.Proofs.YthghcialeghgoaaDoorE
open Go Go.RowKit
set_option linter.unusedSimpArgs false
set_option linter.unusedVariables false
set_option maxRecDepth 20000
set_option maxHeartbeats 4000000

theorem begV_iff {s t : ByteArray} : begV s t = true ↔ t.size ≤ s.size ∧ s.extract 0 t.size = t := by
  unfold begV; simp
theorem ext_app {s x : ByteArray} {k : Nat} (h : k ≤ s.size) : (s ++ x).extract 0 k = s.extract 0 k := by
  apply ByteArray.ext
  rw [ByteArray.data_extract, ByteArray.data_extract, ByteArray.data_append]
  apply Array.ext'
  simp only [Array.toList_extract, Array.toList_append, List.extract, List.drop_zero, Nat.sub_zero]
  rw [List.take_append_of_le_length (by rw [Array.length_toList]; exact h)]
theorem begV_app {s x t : ByteArray} (h : t.size ≤ s.size) : begV (s ++ x) t = begV s t := by
  have hs : (s ++ x).size = s.size + x.size := ByteArray.size_append
  rw [Bool.eq_iff_iff, begV_iff, begV_iff, ext_app h]
  constructor
  · intro q; exact ⟨h, q.2⟩
  · intro q; exact ⟨by omega, q.2⟩
theorem ext_ext {s : ByteArray} {k m : Nat} (h : k ≤ m) (h2 : m ≤ s.size) : (s.extract 0 m).extract 0 k = s.extract 0 k := by
  apply ByteArray.ext
  rw [ByteArray.data_extract, ByteArray.data_extract, ByteArray.data_extract]
  apply Array.ext'
  simp only [Array.toList_extract, List.extract, List.drop_zero, Nat.sub_zero]
  rw [List.take_take, Nat.min_eq_left h]
/-- What begins with the longer one begins with the shorter one. -/
theorem begV_short {p d x : ByteArray} (h : begV p (d ++ x) = true) : begV p d = true := by
  rw [begV_iff] at h ⊢
  have hs : (d ++ x).size = d.size + x.size := ByteArray.size_append
  obtain ⟨h1, h2⟩ := h
  refine ⟨by omega, ?_⟩
  rw [← ext_ext (m := (d ++ x).size) (by omega) h1, h2, ext_app (Nat.le_refl _)]
  exact extract_all d
theorem openN_no {l : List Rul} {d : ByteArray} : ∀ {n : Nat}, openN l d n = false → ∀ i, i < n → begV (l.getD i Rulz).pre d = true → begV d (l.getD i Rulz).pre = true
  | n + 1, h, i, hi, hb => by
    rw [openN] at h
    simp only [Bool.or_eq_false_iff, Bool.and_eq_false_iff, Bool.not_eq_false'] at h
    by_cases e : i = n
    · subst e
      rcases h.2 with q | q
      · rw [hb] at q; cases q
      · exact q
    · exact openN_no h.1 i (by omega) hb
/-- With one more, behind digits that nothing longer begins with, the same rules begin the digits. -/
theorem beg_more {p d x : ByteArray} (hx : 0 < x.size) (h : begV p d = true → begV d p = true) : begV (d ++ x) p = begV d p ∧ begV p (d ++ x) = false := by
  have hs : (d ++ x).size = d.size + x.size := ByteArray.size_append
  have h2 : begV p (d ++ x) = false := by
    cases e : begV p (d ++ x) with
    | false => rfl
    | true =>
      have h3 := h (begV_short e)
      rw [begV_iff] at h3 e
      omega
  refine ⟨?_, h2⟩
  by_cases hp : p.size ≤ d.size
  · exact begV_app hp
  · have e1 : begV d p = false := by
      cases e : begV d p with
      | false => rfl
      | true => rw [begV_iff] at e; omega
    rw [e1]
    cases e : begV (d ++ x) p with
    | false => rfl
    | true =>
      have e2 : begV p d = true := by
        rw [begV_iff] at e ⊢
        refine ⟨by omega, ?_⟩
        rw [← e.2, ext_ext (by omega) e.1, ext_app (Nat.le_refl _)]
        exact extract_all d
      rw [h e2] at e1; cases e1
theorem bestN_more {l : List Rul} {d x : ByteArray} (hx : 0 < x.size) : ∀ (n : Nat), (∀ i, i < n → begV (l.getD i Rulz).pre d = true → begV d (l.getD i Rulz).pre = true) → bestN l (d ++ x) n = bestN l d n ∧ openN l (d ++ x) n = false
  | 0, _ => ⟨rfl, rfl⟩
  | n + 1, h => by
    obtain ⟨h1, h2⟩ := bestN_more hx n (fun i hi => h i (by omega))
    obtain ⟨h3, h4⟩ := beg_more hx (h n (by omega))
    refine ⟨?_, ?_⟩
    · rw [bestN, bestN, h1, h3]
    · rw [openN, h2, h4]; rfl
/-- One digit more. -/
theorem dial_more {l : List Rul} {d x : ByteArray} (hx : 0 < x.size) (h1 : (dialV l d).1 = 2) (h2 : (l.getD (dialV l d).2.2.2.toNat Rulz).route ≠ 0) :
    (dialV l (d ++ x)).1 = 3 ∨ ((dialV l (d ++ x)).1 = 2 ∧ (dialV l (d ++ x)).2.1 = 0) := by
  have hs : (d ++ x).size = d.size + x.size := ByteArray.size_append
  have hf := firstN_fits l d l.length
  have hf2 := firstN_fits l (d ++ x) l.length
  have hb := bestN_bd l d l.length
  have key : ¬ 0 ≤ firstN l d l.length ∧ ¬ bestN l d l.length < 0 ∧ (d.size : Int) = (l.getD (bestN l d l.length).toNat Rulz).most ∧ ¬ (d.size : Int) < (l.getD (bestN l d l.length).toNat Rulz).least ∧ openN l d l.length = false := by
    unfold dialV moreD noneD ofD at h1 h2
    split at h1
    · rename_i c
      rw [if_pos c] at h2
      exact absurd (hf c).1 h2
    · rename_i c
      split at h1
      · split at h1 <;> simp at h1
      · split at h1
        · simp at h1
        · split at h1
          · split at h1 <;> simp at h1
          · split at h1
            · rename_i c1 c2 c3 c4
              exact ⟨c, c1, c4.1, c2, c4.2⟩
            · simp at h1
  obtain ⟨k1, k2, k3, k4, k5⟩ := key
  obtain ⟨m1, m2⟩ := bestN_more (l := l) hx l.length (openN_no k5)
  unfold dialV
  rw [m1, m2]
  split
  · rename_i c
    exact .inr ⟨rfl, (hf2 c).1⟩
  · first
      | (rw [if_neg (by omega), if_pos (by omega)]; exact .inl rfl)
      | (rw [if_neg k2, if_neg (by omega), if_pos (by omega)]; exact .inl rfl)
theorem dialV_code (l : List Rul) (d : ByteArray) : (dialV l d).1 = 0 ∨ (dialV l d).1 = 1 ∨ (dialV l d).1 = 2 ∨ (dialV l d).1 = 3 := by
  unfold dialV moreD noneD ofD
  repeat' split
  all_goals simp
/-- What is told of no rule has no number. -/
theorem dialV_none {l : List Rul} {d : ByteArray} (h : (dialV l d).1 ≠ 2) (h2 : (dialV l d).1 ≠ 1) : (dialV l d).2.2.1 = ⟨#[]⟩ ∧ (dialV l d).2.2.2 = -1 := by
  have hV : dialV l d = dialV l d := rfl
  generalize hE : dialV l d = V at *
  unfold dialV moreD noneD ofD at hE
  clear hV
  grind
/-- What a rule tells. -/
theorem dialV_rule {l : List Rul} {d : ByteArray} (hr : rulesP l) (h : (dialV l d).1 = 2 ∨ (dialV l d).1 = 1) :
    ∃ i : Nat, i < l.length ∧ (dialV l d).2.2.2 = i ∧ (dialV l d).2.1 = (l.getD i Rulz).route ∧ (dialV l d).2.2.1 = numV (l.getD i Rulz) d ∧ (l.getD i Rulz).least ≤ d.size ∧ (d.size : Int) ≤ (l.getD i Rulz).most := by
  have hf := firstN_fits l d l.length
  have hfb := firstN_bd l d l.length
  have hb := bestN_bd l d l.length
  unfold dialV moreD noneD ofD at *
  split at h
  · rename_i c
    rw [if_pos c]
    exact ⟨(firstN l d l.length).toNat, by omega, by dsimp only; omega, rfl, rfl, (hf c).2.1, (hf c).2.2⟩
  · rename_i c
    split at h
    · split at h <;> simp at h
    · split at h
      · simp at h
      · split at h
        · split at h <;> simp at h
        · rename_i c1 c2 c3
          rw [if_neg c, if_neg c1, if_neg c2, if_neg c3]
          split
          · exact ⟨(bestN l d l.length).toNat, by omega, by dsimp only; omega, rfl, rfl, by omega, by omega⟩
          · exact ⟨(bestN l d l.length).toNat, by omega, by dsimp only; omega, rfl, rfl, by omega, by omega⟩
/-- What a dialling with its ticks ends with. -/
theorem stepO_end (l : List Rul) (ps : List Prs) (w : Int) : ∀ (n i : Nat) (dg : ByteArray) (last : Dl) (tk : Int), n + i = ps.length → (i = 0 → tk = 0) → (0 < i → tk = (ps.getD (i - 1) Prsz).tick) →
    ((stepO l ps w n i dg last tk).1.1 = 2 ∨ (stepO l ps w n i dg last tk).1.1 = 3 ∨ (stepO l ps w n i dg last tk).1.1 = 4) ∧
      (ps.length = 0 ∨ ∃ j, j < ps.length ∧ ((stepO l ps w n i dg last tk).2 = (ps.getD j Prsz).tick ∨ (stepO l ps w n i dg last tk).2 = (ps.getD j Prsz).tick + w))
  | 0, i, dg, last, tk, hn, h0, h1 => by
    rw [stepO]
    unfold endO noneD
    by_cases hi : i = 0
    · refine ⟨?_, .inl (by omega)⟩
      split <;> simp
    · have := h1 (by omega)
      split
      · exact ⟨by simp, .inr ⟨i - 1, by omega, .inr (by dsimp only; rw [this])⟩⟩
      · exact ⟨by simp, .inr ⟨i - 1, by omega, .inr (by dsimp only; rw [this])⟩⟩
  | n + 1, i, dg, last, tk, hn, h0, h1 => by
    rw [stepO]
    split
    · rename_i c
      have := h1 c.1
      unfold endO noneD
      split
      · exact ⟨by simp, .inr ⟨i - 1, by omega, .inr (by dsimp only; rw [this])⟩⟩
      · exact ⟨by simp, .inr ⟨i - 1, by omega, .inr (by dsimp only; rw [this])⟩⟩
    · split
      · rename_i c
        exact ⟨c.elim .inl (fun c => .inr (.inl c)), .inr ⟨i, by omega, .inl rfl⟩⟩
      · exact stepO_end l ps w n (i + 1) _ _ _ (by omega) (by omega) (fun _ => rfl)
end Go.Proofs.YthghcialeghgoaaDoorE

/-! The code of a function, in the engine's words. -/
namespace Go.Proofs.YthghcialeghgoaaDoorE
open Go Go.RowKit
@[reducible] def ic8 : IC := (.seq (.ops [⟨some 2, .mov (.const (.bool false)), none⟩]) (.seq (.seq (.ops [⟨some 14, .mov (.tmp 0), none⟩, ⟨some 15, .call 20 [(.tmp 14)], none⟩]) (.cond (.tmp 15) (.seq (.ops [⟨some 2, .mov (.const (.bool true)), none⟩]) .ret) .skip)) (.seq (.ops [⟨some 17, .mov (.tmp 0), none⟩, ⟨some 18, .call 27 [(.tmp 17)], none⟩, ⟨some 16, .mov (.tmp 18), none⟩, ⟨some 19, .ext (.tmp 16) 0, none⟩, ⟨some 20, .ext (.tmp 16) 1, none⟩, ⟨some 21, .ext (.tmp 16) 2, none⟩, ⟨some 3, .mov (.tmp 19), none⟩, ⟨some 4, .mov (.tmp 20), none⟩, ⟨some 5, .mov (.tmp 21), none⟩]) (.seq (.ops [⟨some 23, .mov (.tmp 3), none⟩, ⟨some 24, .mov (.tmp 4), none⟩, ⟨some 25, .mov (.tmp 5), none⟩, ⟨some 26, .call 28 [(.tmp 23), (.tmp 24), (.tmp 25)], none⟩, ⟨some 22, .mov (.tmp 26), none⟩, ⟨some 27, .ext (.tmp 22) 0, none⟩, ⟨some 28, .ext (.tmp 22) 1, none⟩, ⟨some 6, .new [(.int .i64 0), (.int .i64 0), (.string ⟨#[]⟩), (.int .i64 0)], none⟩, ⟨none, .store 4 (.tmp 6) (.tmp 27), none⟩, ⟨some 7, .mov (.tmp 28), none⟩]) (.seq (.ops [⟨some 30, .mov (.tmp 3), none⟩, ⟨some 31, .mov (.tmp 4), none⟩, ⟨some 32, .mov (.tmp 5), none⟩, ⟨some 33, .call 29 [(.tmp 30), (.tmp 31), (.tmp 32)], none⟩, ⟨some 29, .mov (.tmp 33), none⟩, ⟨some 34, .ext (.tmp 29) 0, none⟩, ⟨some 35, .ext (.tmp 29) 1, none⟩, ⟨some 8, .new [(.int .i64 0), (.int .i64 0), (.string ⟨#[]⟩), (.int .i64 0)], none⟩, ⟨none, .store 4 (.tmp 8) (.tmp 34), none⟩, ⟨some 9, .mov (.tmp 35), none⟩]) (.seq (.seq (.ops [⟨some 36, .fadr 0 (.tmp 6), none⟩, ⟨some 37, .load 1 false (.tmp 36), none⟩, ⟨some 38, .fadr 0 (.tmp 8), none⟩, ⟨some 39, .load 1 false (.tmp 38), none⟩, ⟨some 40, .bin .neq (.tmp 37) (.tmp 39), none⟩, ⟨some 41, .mov (.tmp 40), none⟩, ⟨some 42, .mov (.tmp 7), some (41, false)⟩, ⟨some 43, .mov (.tmp 9), some (41, false)⟩, ⟨some 44, .bin .neq (.tmp 42) (.tmp 43), some (41, false)⟩, ⟨some 45, .pick (.tmp 41) (.const (.bool true)) (.tmp 44), none⟩, ⟨some 46, .mov (.tmp 45), none⟩, ⟨some 47, .fadr 2 (.tmp 6), some (46, false)⟩, ⟨some 48, .load 1 false (.tmp 47), some (46, false)⟩, ⟨some 49, .fadr 2 (.tmp 8), some (46, false)⟩, ⟨some 50, .load 1 false (.tmp 49), some (46, false)⟩, ⟨some 51, .bin .neq (.tmp 48) (.tmp 50), some (46, false)⟩, ⟨some 52, .pick (.tmp 46) (.const (.bool true)) (.tmp 51), none⟩]) (.cond (.tmp 52) (.seq (.ops [⟨some 2, .mov (.const (.bool false)), none⟩]) .ret) .skip)) (.seq (.ops [⟨some 54, .call 28 [(.const (.slice none 0 0)), (.const (.slice none 0 0)), (.const (.int .i64 9))], none⟩, ⟨some 53, .mov (.tmp 54), none⟩, ⟨some 55, .ext (.tmp 53) 0, none⟩, ⟨some 56, .ext (.tmp 53) 1, none⟩, ⟨some 10, .new [(.int .i64 0), (.int .i64 0), (.string ⟨#[]⟩), (.int .i64 0)], none⟩, ⟨none, .store 4 (.tmp 10) (.tmp 55), none⟩, ⟨some 11, .mov (.tmp 56), none⟩]) (.seq (.seq (.ops [⟨some 57, .fadr 0 (.tmp 10), none⟩, ⟨some 58, .load 1 false (.tmp 57), none⟩, ⟨some 59, .bin .neq (.tmp 58) (.const (.int .i64 4)), none⟩, ⟨some 60, .mov (.tmp 59), none⟩, ⟨some 61, .mov (.tmp 11), some (60, false)⟩, ⟨some 62, .bin .neq (.tmp 61) (.const (.int .i64 9)), some (60, false)⟩, ⟨some 63, .pick (.tmp 60) (.const (.bool true)) (.tmp 62), none⟩]) (.cond (.tmp 63) (.seq (.ops [⟨some 2, .mov (.const (.bool false)), none⟩]) .ret) .skip)) (.seq (.seq (.ops [⟨some 64, .fadr 0 (.tmp 8), none⟩, ⟨some 65, .load 1 false (.tmp 64), none⟩, ⟨some 66, .bin .eql (.tmp 65) (.const (.int .i64 5)), none⟩]) (.cond (.tmp 66) (.seq (.ops [⟨some 67, .mov (.tmp 7), none⟩, ⟨some 68, .bin .eql (.tmp 67) (.const (.int .i64 (-1))), none⟩, ⟨some 2, .mov (.tmp 68), none⟩]) .ret) .skip)) (.seq (.ops [⟨some 12, .mov (.const (.bool false)), none⟩]) (.seq (.seq (.ops [⟨some 13, .mov (.const (.int .i64 0)), none⟩]) (.block 0 (.loop (.seq (.seq (.ops [⟨some 69, .mov (.tmp 13), none⟩, ⟨some 70, .mov (.tmp 4), none⟩, ⟨some 71, .len (.tmp 70), none⟩, ⟨some 72, .bin .lss (.tmp 69) (.tmp 71), none⟩]) (.cond (.tmp 72) .skip (.exit 0))) (.seq (.block 1 (.ops [⟨some 75, .mov (.tmp 12), none⟩, ⟨some 76, .mov (.tmp 75), none⟩, ⟨some 77, .mov (.tmp 7), some (76, false)⟩, ⟨some 78, .mov (.tmp 4), some (76, false)⟩, ⟨some 79, .mov (.tmp 13), some (76, false)⟩, ⟨some 80, .iadr 2 (.tmp 78) (.tmp 79), some (76, false)⟩, ⟨some 81, .fadr 0 (.tmp 80), some (76, false)⟩, ⟨some 82, .load 1 false (.tmp 81), some (76, false)⟩, ⟨some 83, .bin .eql (.tmp 77) (.tmp 82), some (76, false)⟩, ⟨some 84, .pick (.tmp 76) (.const (.bool true)) (.tmp 83), none⟩, ⟨some 85, .mov (.tmp 84), none⟩, ⟨some 86, .mov (.tmp 7), some (85, false)⟩, ⟨some 87, .mov (.tmp 4), some (85, false)⟩, ⟨some 88, .mov (.tmp 13), some (85, false)⟩, ⟨some 89, .iadr 2 (.tmp 87) (.tmp 88), some (85, false)⟩, ⟨some 90, .fadr 0 (.tmp 89), some (85, false)⟩, ⟨some 91, .load 1 false (.tmp 90), some (85, false)⟩, ⟨some 92, .mov (.tmp 5), some (85, false)⟩, ⟨some 93, .bin .add (.tmp 91) (.tmp 92), some (85, false)⟩, ⟨some 94, .bin .eql (.tmp 86) (.tmp 93), some (85, false)⟩, ⟨some 95, .pick (.tmp 85) (.const (.bool true)) (.tmp 94), none⟩, ⟨some 12, .mov (.tmp 95), none⟩])) (.ops [⟨some 73, .mov (.tmp 13), none⟩, ⟨some 74, .bin .add (.tmp 73) (.const (.int .i64 1)), none⟩, ⟨some 13, .mov (.tmp 74), none⟩])))))) (.seq (.ops [⟨some 96, .mov (.tmp 12), none⟩, ⟨some 97, .mov (.tmp 96), none⟩, ⟨some 98, .mov (.tmp 4), some (97, false)⟩, ⟨some 99, .len (.tmp 98), some (97, false)⟩, ⟨some 100, .bin .eql (.tmp 99) (.const (.int .i64 0)), some (97, false)⟩, ⟨some 101, .pick (.tmp 97) (.const (.bool true)) (.tmp 100), none⟩, ⟨some 102, .mov (.tmp 101), none⟩, ⟨some 103, .fadr 0 (.tmp 6), some (102, true)⟩, ⟨some 104, .load 1 false (.tmp 103), some (102, true)⟩, ⟨some 105, .bin .eql (.tmp 104) (.const (.int .i64 2)), some (102, true)⟩, ⟨some 106, .mov (.tmp 105), some (102, true)⟩, ⟨some 107, .fadr 0 (.tmp 6), some (106, false)⟩, ⟨some 108, .load 1 false (.tmp 107), some (106, false)⟩, ⟨some 109, .bin .eql (.tmp 108) (.const (.int .i64 3)), some (106, false)⟩, ⟨some 110, .pick (.tmp 106) (.const (.bool true)) (.tmp 109), some (102, true)⟩, ⟨some 111, .mov (.tmp 110), some (102, true)⟩, ⟨some 112, .fadr 0 (.tmp 6), some (111, false)⟩, ⟨some 113, .load 1 false (.tmp 112), some (111, false)⟩, ⟨some 114, .bin .eql (.tmp 113) (.const (.int .i64 4)), some (111, false)⟩, ⟨some 115, .pick (.tmp 111) (.const (.bool true)) (.tmp 114), some (102, true)⟩, ⟨some 116, .pick (.tmp 102) (.tmp 115) (.const (.bool false)), none⟩, ⟨some 2, .mov (.tmp 116), none⟩]) .ret))))))))))))
@[reducible] def rv8 : List RV := [.tmp 2]
theorem low8 : lowC Tryd.prog tau Tryd.f8.ntmps (Tryd.f8.body.getD .skip) = some (erase ic8) := by kernel_rfl
theorem res8 : lowR Tryd.prog Tryd.f8.results.toList = some rv8 := by kernel_rfl
theorem bod8 : Tryd.f8.body = some (Tryd.f8.body.getD .skip) := by kernel_rfl
theorem cal8 : callable Tryd.prog 8 = true := by kernel_rfl

end Go.Proofs.YthghcialeghgoaaDoorE

/-! The law of timers. -/
namespace Go.Proofs.YthghcialeghgoaaDoorE
open Go Go.RowKit
set_option linter.unusedSimpArgs false
set_option linter.unusedVariables false
set_option maxRecDepth 20000
set_option maxHeartbeats 4000000

theorem den_nil {W : World} {C : CR} {ρ : Nm} {t : Ty} {v : Value} (h : Den W C ρ (.v (.slice none 0 0)) v) : Den W C ρ (.rs t []) v := by
  rw [den_v h]
  exact .rs (t := t) (xs := []) (A := none) (c := 0) (fun _ => undef) (.inl (by simp)) (Nat.le_refl _) (fun i f x av h => by simp at h)
def spOverU : Spec := ⟨fun _ _ => [], fun args objs K => match args, objs with
  | [x, y, .v (.int .i64 w)], [] => rowsK .rule [] x fun l => rowsK .prs [] y fun ps => (szRulAll l 140737488351232 ∧ l.length ≤ 1099511627776 ∧ szPrsAll ps 140737488351232 ∧ ps.length ≤ 1099511627776) ∧ K (.tup [dA (overV l ps w).1, .v (.int .i64 (overV l ps w).2)]) [] 0
  | _, _ => False, false⟩
theorem spOverU_t {L : Hp} {a : List AVal} : Spec.take spOverU L a = [] := id rfl
theorem spOverU_k : Spec.keep spOverU = false := id rfl
theorem spOverU_f {x} {y} {w} {K : AVal → Hp → Nat → Prop} : Spec.f spOverU ([x, y, .v (.int .i64 w)]) ([]) K = (rowsK .rule [] x fun l => rowsK .prs [] y fun ps => (szRulAll l 140737488351232 ∧ l.length ≤ 1099511627776 ∧ szPrsAll ps 140737488351232 ∧ ps.length ≤ 1099511627776) ∧ K (.tup [dA (overV l ps w).1, .v (.int .i64 (overV l ps w).2)]) [] 0) := id rfl
theorem rs_or {t : Ty} {x : AVal} {k : List t.D → Prop} (h : rowsK t [] x k) : ∃ l, k l ∧ ∀ {W : World} {C : CR} {ρ : Nm} {v : Value}, Den W C ρ x v → Den W C ρ (.rs t l) v := by
  unfold rowsK at h
  split at h
  · rename_i t' xs
    obtain rfl := castK_eq h
    exact ⟨xs, castK_same h, fun hd => hd⟩
  · simp [lk] at h
  · exact ⟨[], h, fun hd => den_nil hd⟩
  · exact h.elim
theorem valid28U : Valid Tryd.prog 28 spOverU := by
  intro W C ρ args vals objs K hd hp h
  simp only [spOverU] at h
  split at h
  · rename_i x y w
    obtain ⟨l, h, hx⟩ := rs_or h
    obtain ⟨ps, h, hy⟩ := rs_or h
    obtain ⟨v0, r0, rfl, d0, e0⟩ := hd.cons_inv
    obtain ⟨v1, r1, rfl, d1, e1⟩ := e0.cons_inv
    exact valid28 W C ρ _ _ _ K (DenL.cons (hx d0) (DenL.cons (hy d1) e1)) hp h
  · exact h.elim
theorem over_nil : overV [] [] 9 = (noneD 4, 9) := by
  have h : overOk [] [] 9 := ⟨⟨fun i hi => by simp at hi, by simp⟩, ⟨fun i hi => by simp at hi, by simp⟩, by decide, by decide⟩
  rw [overV_yes h]
  rfl
theorem over_end (l : List Rul) (ps : List Prs) (w : Int) : (¬ overOk l ps w ∧ overV l ps w = (noneD 5, -1)) ∨ (overOk l ps w ∧ ((overV l ps w).1.1 = 2 ∨ (overV l ps w).1.1 = 3 ∨ (overV l ps w).1.1 = 4) ∧
    (ps.length = 0 ∨ ∃ j, j < ps.length ∧ ((overV l ps w).2 = (ps.getD j Prsz).tick ∨ (overV l ps w).2 = (ps.getD j Prsz).tick + w))) := by
  by_cases h : overOk l ps w
  · refine .inr ⟨h, ?_⟩
    rw [overV_yes h]
    exact stepO_end l ps w ps.length 0 _ _ _ rfl (fun _ => rfl) (fun h => absurd h (Nat.lt_irrefl 0))
  · exact .inl ⟨h, overV_no h⟩
/-- The tick is one of the first presses', or just wait behind it. -/
def atP (ps : List Prs) (w T : Int) (i : Nat) : Prop := ∃ j, j < i ∧ (T = (ps.getD j Prsz).tick ∨ T = wr .i64 ((ps.getD j Prsz).tick + w))
noncomputable instance (ps : List Prs) (w T : Int) (i : Nat) : Decidable (atP ps w T i) := Classical.propDecidable _
theorem atP_0 (ps : List Prs) (w T : Int) : decide (atP ps w T 0) = false := decide_eq_false fun ⟨j, h, _⟩ => absurd h (Nat.not_lt_zero j)
theorem atP_succ (ps : List Prs) (w T : Int) (i : Nat) : atP ps w T (i + 1) ↔ atP ps w T i ∨ T = (ps.getD i Prsz).tick ∨ T = wr .i64 ((ps.getD i Prsz).tick + w) := by
  constructor
  · rintro ⟨j, h1, h2⟩
    by_cases e : j < i
    · exact .inl ⟨j, e, h2⟩
    · obtain rfl : j = i := by omega
      exact .inr h2
  · rintro (⟨j, h1, h2⟩ | h)
    · exact ⟨j, by omega, h2⟩
    · exact ⟨i, by omega, h⟩
def spLaw8 : Spec := ⟨fun _ _ => [], fun args objs K => match args, objs with
  | [.rs .byte b], [] => bytesP b ∧ K (.v (.bool true)) [] 0
  | _, _ => False, false⟩
theorem spLaw8_t {L : Hp} {a : List AVal} : Spec.take spLaw8 L a = [] := id rfl
theorem spLaw8_k : Spec.keep spLaw8 = false := id rfl
theorem spLaw8_f {b} {K : AVal → Hp → Nat → Prop} : Spec.f spLaw8 ([.rs .byte b]) ([]) K = (bytesP b ∧ K (.v (.bool true)) [] 0) := id rfl
theorem valid8 : Valid Tryd.prog 8 spLaw8 := by
  refine validI (Γ := lk [(20, spBig), (27, spDrawOver), (28, spOverU), (29, spOver)]) Tryd.func8 bod8 low8 res8 (good_of ⟨⟨cal20, valid20⟩, ⟨cal27, valid27⟩, ⟨cal28, valid28U⟩, ⟨cal29, valid29⟩, trivial⟩) ?_
  intro E args objs K h0 hE hG hP
  simp only [spLaw8] at h0
  split at h0
  · refine ⟨by simp [Tryd.ntmps8], ?_⟩
    rename_i b
    obtain ⟨hb, h0⟩ := h0
    by_cases hbig : (b.length : Int) > 1048576
    · have e1 := eq_true hbig
      simp (config := { maxSteps := 2000000 }) only [go_sem, hG, hP, Nat.reduceEqDiff, ↓reduceIte, reduceCtorEq, Nat.reduceAdd, Nat.reduceSub, Nat.reduceMul, Nat.reduceLT, Nat.reduceLeDiff, Int.reduceAdd, Int.reduceSub, Int.reduceMul, Int.reduceLT, Int.reduceLE, Int.reduceEq, Int.reduceNeg, Int.reduceNe, Int.reduceGE, Int.reduceGT, Nat.reduceBEq, Int.reduceToNat,  spBig_f, spBig_t, spBig_k, e1]
      refine ⟨_, _, _, ?_, h0⟩
      simp (config := { maxSteps := 2000000 }) only [go_sem, hG, hP, Nat.reduceEqDiff, ↓reduceIte, reduceCtorEq, Nat.reduceAdd, Nat.reduceSub, Nat.reduceMul, Nat.reduceLT, Nat.reduceLeDiff, Int.reduceAdd, Int.reduceSub, Int.reduceMul, Int.reduceLT, Int.reduceLE, Int.reduceEq, Int.reduceNeg, Int.reduceNe, Int.reduceGE, Int.reduceGT, Nat.reduceBEq, Int.reduceToNat]
    · have e1 := eq_false hbig
      simp (config := { maxSteps := 2000000 }) only [go_sem, hG, hP, Nat.reduceEqDiff, ↓reduceIte, reduceCtorEq, Nat.reduceAdd, Nat.reduceSub, Nat.reduceMul, Nat.reduceLT, Nat.reduceLeDiff, Int.reduceAdd, Int.reduceSub, Int.reduceMul, Int.reduceLT, Int.reduceLE, Int.reduceEq, Int.reduceNeg, Int.reduceNe, Int.reduceGE, Int.reduceGT, Nat.reduceBEq, Int.reduceToNat,  spBig_f, spBig_t, spBig_k, spDrawOver_f, spDrawOver_t, spDrawOver_k, e1]
      repeat (refine And.intro (by first | omega | (simp; done) | (simp; omega) | (unfold appRoom; omega)) ?_)
      rintro l ps w ⟨l1, l2, p1, p2⟩
      have l5 := eq_true (szRul_mono l2 (show 1000 ≤ 140737488351232 by omega))
      have l6 : (l.length ≤ 1099511627776) = True := eq_true (by omega)
      have p3 : szPrsAll ps 140737488351232 := fun i hi => Nat.le_trans (p2 i hi) (by omega)
      have p5 := eq_true p3
      have p6 : (ps.length ≤ 1099511627776) = True := eq_true (by omega)
      have nr : szRulAll ([] : List Rul) 140737488351232 = True := eq_true fun i hi => by simp at hi
      have np : szPrsAll ([] : List Prs) 140737488351232 = True := eq_true fun i hi => by simp at hi
      rcases over_end l ps w with ⟨_, hV⟩ | ⟨hok, hc, ha⟩
      · simp (config := { maxSteps := 2000000 }) only [go_sem, hG, hP, Nat.reduceEqDiff, ↓reduceIte, reduceCtorEq, Nat.reduceAdd, Nat.reduceSub, Nat.reduceMul, Nat.reduceLT, Nat.reduceLeDiff, Int.reduceAdd, Int.reduceSub, Int.reduceMul, Int.reduceLT, Int.reduceLE, Int.reduceEq, Int.reduceNeg, Int.reduceNe, Int.reduceGE, Int.reduceGT, Nat.reduceBEq, Int.reduceToNat,  spOverU_f, spOverU_t, spOverU_k, spOver_f, spOver_t, spOver_k, dA, noneD, over_nil, l5, l6, p5, p6, nr, np, hV, bb_self]
        (try simp (disch := omega) only [wrap_id])
        repeat' (first | (refine And.intro ?_ ?_) | (with_reducible intro _))
        all_goals first
          | omega
          | (simp; done)
          | (refine ⟨_, _, _, ?_, h0⟩; simp (config := { maxSteps := 2000000 }) only [go_sem, hG, hP, Nat.reduceEqDiff, ↓reduceIte, reduceCtorEq, Nat.reduceAdd, Nat.reduceSub, Nat.reduceMul, Nat.reduceLT, Nat.reduceLeDiff, Int.reduceAdd, Int.reduceSub, Int.reduceMul, Int.reduceLT, Int.reduceLE, Int.reduceEq, Int.reduceNeg, Int.reduceNe, Int.reduceGE, Int.reduceGT, Nat.reduceBEq, Int.reduceToNat]; done)
          | skip
        skip
        done
      · generalize hV : overV l ps w = V at *
        obtain ⟨⟨v1, v2, v3, v4⟩, v5⟩ := V
        dsimp only at hc ha
        have hc5 : (v1 = 5) = False := eq_false (by omega)
        have ha2 : ps.length = 0 ∨ atP ps w v5 ps.length := by
          rcases ha with h | ⟨j, j1, j2⟩
          · exact .inl h
          · refine .inr ⟨j, j1, ?_⟩
            have hp := (hok.2.1.1 j j1).1.1
            have hw := hok.2.2
            rw [wrap_id (by omega) (by omega)]
            exact j2
        simp (config := { maxSteps := 2000000 }) only [go_sem, hG, hP, Nat.reduceEqDiff, ↓reduceIte, reduceCtorEq, Nat.reduceAdd, Nat.reduceSub, Nat.reduceMul, Nat.reduceLT, Nat.reduceLeDiff, Int.reduceAdd, Int.reduceSub, Int.reduceMul, Int.reduceLT, Int.reduceLE, Int.reduceEq, Int.reduceNeg, Int.reduceNe, Int.reduceGE, Int.reduceGT, Nat.reduceBEq, Int.reduceToNat,  spOverU_f, spOverU_t, spOverU_k, spOver_f, spOver_t, spOver_k, dA, noneD, over_nil, l5, l6, p5, p6, nr, np, hV, bb_self, hc5]
        (try simp (disch := omega) only [wrap_id])
        repeat (refine And.intro (by first | omega | (simp; done) | (simp; omega) | (unfold appRoom; omega)) ?_)
        refine loopI hE (fun i : Nat => ⟨[(4, .sub 0 2 0 ps.length), (5, .v (.int .i64 w)), (6, .ptr 1 0), (7, .v (.int .i64 v5)), (12, .v (.bool (decide (atP ps w v5 i)))), (13, .v (.int .i64 i))], [(0, .row .prs ps), (1, .box [.v (.int .i64 v1), .v (.int .i64 v2), .v (.string v3), .v (.int .i64 v4)])], 2, Tryd.f8.ntmps⟩) (fun i => i ≤ ps.length) (fun i => ps.length - i) ⟨0, Nat.zero_le _, SubS.weak ?_⟩ ?_
        · simp (config := { maxSteps := 2000000 }) only [go_sem, hG, hP, Nat.reduceEqDiff, ↓reduceIte, reduceCtorEq, Nat.reduceAdd, Nat.reduceSub, Nat.reduceMul, Nat.reduceLT, Nat.reduceLeDiff, Int.reduceAdd, Int.reduceSub, Int.reduceMul, Int.reduceLT, Int.reduceLE, Int.reduceEq, Int.reduceNeg, Int.reduceNe, Int.reduceGE, Int.reduceGT, Nat.reduceBEq, Int.reduceToNat,  atP_0]
          repeat' (first | with_reducible rfl | (refine And.intro ?_ ?_) | (refine congrArg (Value.int _) ?_; omega) | omega)
        · intro i hi
          dsimp only at hi ⊢
          by_cases hi2 : i < ps.length
          · have e2 : ((i : Int) < ps.length) = True := by apply eq_true; omega
            have hs := atP_succ ps w v5 i
            have hd1 : ∀ b : Bool, (b = true ↔ atP ps w v5 (i + 1)) → b = decide (atP ps w v5 (i + 1)) := fun b hb => by
              rw [Bool.eq_iff_iff, decide_eq_true_eq]; exact hb
            dsimp only [Prsz] at hs
            simp (config := { maxSteps := 2000000 }) only [go_sem, hG, hP, Nat.reduceEqDiff, ↓reduceIte, reduceCtorEq, Nat.reduceAdd, Nat.reduceSub, Nat.reduceMul, Nat.reduceLT, Nat.reduceLeDiff, Int.reduceAdd, Int.reduceSub, Int.reduceMul, Int.reduceLT, Int.reduceLE, Int.reduceEq, Int.reduceNeg, Int.reduceNe, Int.reduceGE, Int.reduceGT, Nat.reduceBEq, Int.reduceToNat,  e2]
            repeat' (first | (refine And.intro ?_ ?_) | (with_reducible intro _))
            all_goals first
              | omega
              | (refine ⟨i + 1, ⟨by omega, by omega⟩, SubS.weak ?_⟩
                 simp (config := { maxSteps := 2000000 }) only [go_sem, hG, hP, Nat.reduceEqDiff, ↓reduceIte, reduceCtorEq, Nat.reduceAdd, Nat.reduceSub, Nat.reduceMul, Nat.reduceLT, Nat.reduceLeDiff, Int.reduceAdd, Int.reduceSub, Int.reduceMul, Int.reduceLT, Int.reduceLE, Int.reduceEq, Int.reduceNeg, Int.reduceNe, Int.reduceGE, Int.reduceGT, Nat.reduceBEq, Int.reduceToNat]
                 refine ⟨congrArg Value.bool (hd1 _ ?_), congrArg (Value.int _) ?_⟩
                 · grind
                 · rw [wrap_id (by omega) (by omega)]; omega)
              | skip
            skip
            done
          · have e2 : ((i : Int) < ps.length) = False := by apply eq_false; omega
            have ei : i = ps.length := by omega
            subst ei
            simp (config := { maxSteps := 2000000 }) only [go_sem, hG, hP, Nat.reduceEqDiff, ↓reduceIte, reduceCtorEq, Nat.reduceAdd, Nat.reduceSub, Nat.reduceMul, Nat.reduceLT, Nat.reduceLeDiff, Int.reduceAdd, Int.reduceSub, Int.reduceMul, Int.reduceLT, Int.reduceLE, Int.reduceEq, Int.reduceNeg, Int.reduceNe, Int.reduceGE, Int.reduceGT, Nat.reduceBEq, Int.reduceToNat,  e2]
            repeat' (first | (refine And.intro ?_ ?_) | (with_reducible intro _))
            all_goals first
              | omega
              | (refine ⟨_, _, _, ?_, h0⟩; simp (config := { maxSteps := 2000000 }) only [go_sem, hG, hP, Nat.reduceEqDiff, ↓reduceIte, reduceCtorEq, Nat.reduceAdd, Nat.reduceSub, Nat.reduceMul, Nat.reduceLT, Nat.reduceLeDiff, Int.reduceAdd, Int.reduceSub, Int.reduceMul, Int.reduceLT, Int.reduceLE, Int.reduceEq, Int.reduceNeg, Int.reduceNe, Int.reduceGE, Int.reduceGT, Nat.reduceBEq, Int.reduceToNat]; done)
              | (have e : v1 = 4 := by clear ha ha2; omega
                 refine ⟨_, _, _, ?_, h0⟩
                 simp (config := { maxSteps := 2000000 }) only [go_sem, hG, hP, Nat.reduceEqDiff, ↓reduceIte, reduceCtorEq, Nat.reduceAdd, Nat.reduceSub, Nat.reduceMul, Nat.reduceLT, Nat.reduceLeDiff, Int.reduceAdd, Int.reduceSub, Int.reduceMul, Int.reduceLT, Int.reduceLE, Int.reduceEq, Int.reduceNeg, Int.reduceNe, Int.reduceGE, Int.reduceGT, Nat.reduceBEq, Int.reduceToNat]
                 rw [decide_eq_true e])
              | (exfalso; rcases ha2 with q | q
                 · omega
                 · contradiction)
              | skip
            skip
            done
  · exact h0.elim
end Go.Proofs.YthghcialeghgoaaDoorE

/-! What an argument of a law reads as, in the engine's words; and what a proved function gives a law. -/
namespace Go.Proofs.YthghcialeghgoaaDoorE
open Go Go.RowKit Go.ChangeShapes Go.WideShapes
set_option linter.unusedSimpArgs false
set_option linter.unusedVariables false

def nm0 : Nm := fun _ => none
def noC : CR := ⟨fun _ => False, fun _ => False, fun _ h => h⟩
/-- What type t's data read as, by d; ok: what is known of it. -/
def Tells (P : Program) (t : TypeId) {α : Type} (n : Nat) (d : α → List AVal) (ok : α → Prop) : Prop :=
  ∀ (H : Type) (enc : TypeId × Value → H) (W : World) (base : Nat) (spare : Nat → Bool) (held : Bool) (fuel : Nat) (cs : List Value) (x : DataW H × List MemPlace),
    DataW.trod enc P W base spare held fuel t cs = some x → (∀ b ∈ x.1.weights P t, b ≤ reachBytes) → ∃ y : α, (DenL W noC nm0 (d y) cs ∧ cs.length = n) ∧ ok y
def TellsF (P : Program) (fs : List Field) (off : Nat) {α : Type} (n : Nat) (d : α → List AVal) (ok : α → Prop) : Prop :=
  ∀ (H : Type) (enc : TypeId × Value → H) (W : World) (base : Nat) (spare : Nat → Bool) (held : Bool) (fuel : Nat) (cs : List Value) (xs : List (DataW H × List MemPlace)),
    (∀ (i : Nat) (f : Field), fs[i]? = some f → DataW.trod enc P W base spare held fuel f.type ((cs.drop f.offset).take (P.cellsOf f.type)) = xs[i]?) → xs.length = fs.length → cs.length = off + n →
    (∀ (i : Nat) (f : Field) x, fs[i]? = some f → xs[i]? = some x → ∀ b ∈ x.1.weights P f.type, b ≤ reachBytes) → ∃ y : α, (DenL W noC nm0 (d y) (cs.drop off)) ∧ ok y

theorem den1 {W : World} (v : Value) : DenL W noC nm0 [.v v] [v] := DenL.cons (.v v) .nil
theorem Tells.int {P : Program} {t : TypeId} {k : IntKind} (ht : P.underlying t = some (.int k)) : Tells P t 1 (fun n : Int => [.v (.int k n)]) (fun n => (Lit.int k n).wf = true) := by
  intro H enc W base spare held fuel cs x h _
  cases fuel with
  | zero => simp [DataW.trod] at h
  | succ m =>
    unfold DataW.trod at h
    rw [ht] at h
    split at h <;> simp_all
    obtain ⟨⟨_, h1⟩, _⟩ := h
    exact ⟨_, den1 _, h1⟩
theorem Tells.bool {P : Program} {t : TypeId} (ht : P.underlying t = some .bool) : Tells P t 1 (fun b : Bool => [.v (.bool b)]) (fun _ => True) := by
  intro H enc W base spare held fuel cs x h _
  cases fuel with
  | zero => simp [DataW.trod] at h
  | succ m =>
    unfold DataW.trod at h
    rw [ht] at h
    split at h <;> simp_all
    rename_i b
    cases b
    · exact .inl (den1 _)
    · exact .inr (den1 _)
theorem Tells.string {P : Program} {t : TypeId} (ht : P.underlying t = some .string) : Tells P t 1 (fun s : ByteArray => [.v (.string s)]) (fun s => s.size ≤ 140737488351232) := by
  intro H enc W base spare held fuel cs x h hw
  cases fuel with
  | zero => simp [DataW.trod] at h
  | succ m =>
    unfold DataW.trod at h
    rw [ht] at h
    split at h <;> simp_all
    obtain ⟨_, h2⟩ := h
    subst h2
    refine ⟨_, den1 _, ?_⟩
    have := hw _ (by simp only [DataW.weights]; exact List.mem_singleton.2 rfl)
    rw [Array.length_toList] at this
    exact this
theorem weights_all {H : Type} {P : Program} {e : TypeId} {ds : List (DataW H)} {d : DataW H} (hd : d ∈ ds) {b : Nat} (hb : b ∈ d.weights P e) : b ∈ DataW.weightsAll P e ds := by
  induction ds with
  | nil => cases hd
  | cons a r ih =>
    simp only [DataW.weightsAll, List.mem_append]
    rcases List.mem_cons.1 hd with rfl | hd
    · exact .inl hb
    · exact .inr (ih hd)
theorem Tells.slice {P : Program} {t e : TypeId} (ht : P.underlying t = some (.slice e)) {τ : Ty} {ok : τ.D → Prop} (he : Tells P e (sz τ) (enc τ) ok) (hs : P.cellsOf e = sz τ) {B : Nat} (hB : P.bytesOf e = B) :
    Tells P t 1 (fun xs : List τ.D => [.rs τ xs]) (fun xs => xs.length * B ≤ 140737488351232 ∧ xs.length ≤ maxLen ∧ ∀ x ∈ xs, ok x) := by
  intro H enc' W base spare held fuel cs x h hw
  rcases Go.Deep.open_slice ht h with ⟨rfl, rfl⟩ | ⟨a, len, cap, m, n, D, Pl, rfl, hb, hl, hm, hmm, rfl, hx⟩
  · exact ⟨[], ⟨DenL.cons (Den.rs (t := τ) (xs := []) (A := none) (c := 0) (fun _ => undef) (.inl (by simp)) (Nat.le_refl _) (fun i f x av hx => by simp at hx)) .nil, rfl⟩, by simp [maxLen]⟩
  · have hlm : len ≤ m := by rw [hmm]; split <;> omega
    have hel : ∀ i, i < len → ∃ y : τ.D, (∃ c, W.cells? base (a.add (i * P.cellsOf e)) (P.cellsOf e) = some c ∧ (DenL W noC nm0 (enc τ y) c ∧ c.length = sz τ)) ∧ ok y := by
      intro i hi
      obtain ⟨c, hc, hd⟩ := hx i (by omega)
      obtain ⟨y, hy, hok⟩ := he H enc' W base spare held n c _ hd (fun b hb => hw b (by
        simp only [DataW.weights, ht, List.mem_cons, List.mem_append]
        exact .inr (.inl (weights_all (List.mem_map.2 ⟨i, List.mem_range.2 hi, rfl⟩) hb))))
      exact ⟨y, ⟨c, hc, hy⟩, hok⟩
    have : Inhabited τ.D := ⟨dflt τ⟩
    obtain ⟨f, hf⟩ := Go.Deep.choose_lt hel
    have hlen : ((List.range len).map f).length = len := by simp
    have hcell : ∀ i, i < len → ∃ c, DenL W noC nm0 (enc τ (f i)) c ∧ c.length = sz τ ∧ ∀ j, j < sz τ → W.cell? (a.add (i * sz τ + j)) = c[j]? := by
      intro i hi
      obtain ⟨⟨c, hc, hd, hcl⟩, _⟩ := hf i hi
      refine ⟨c, hd, hcl, fun j hj => ?_⟩
      have hc' := World.cells?_some hc
      rw [hs] at hc'
      have := hc'.2.2 j hj
      rw [← this, Go.Deep.add_add]
    have hall : ∀ k, k < len * sz τ → ∃ u, W.cell? (a.add k) = some u := by
      intro k hk
      have hz := sz_pos τ
      have hi : k / sz τ < len := Nat.div_lt_of_lt_mul (by rw [Nat.mul_comm]; exact hk)
      have hj : k % sz τ < sz τ := Nat.mod_lt _ hz
      obtain ⟨c, _, hcl, hc⟩ := hcell _ hi
      refine ⟨c[k % sz τ]'(by omega), ?_⟩
      have := hc _ hj
      rw [show k / sz τ * sz τ + k % sz τ = k by rw [Nat.mul_comm]; exact Nat.div_add_mod k (sz τ)] at this
      rw [this, List.getElem?_eq_getElem]
    refine ⟨(List.range len).map f, ⟨DenL.cons ?_ .nil, rfl⟩, ?_, by rw [hlen]; exact Nat.le_trans hl hm, ?_⟩
    · have key : Den W noC nm0 (.rs τ ((List.range len).map f)) (.slice (some a) ((List.range len).map f).length cap) := by
        refine .rs (fun k => (W.cell? (a.add k)).getD undef) ?_ (by rw [hlen]; exact hl) ?_
        · rw [hlen]
          rcases Nat.eq_zero_or_pos (len * sz τ) with h0 | hp
          · exact .inl h0
          · obtain ⟨u, hu⟩ := hall 0 hp
            refine .inr ⟨a, rfl, ?_, fun h => h, fun k hk => ?_⟩
            · have := World.block_lt_of_cell? _ _ hu
              simpa [Addr.add] using this
            · obtain ⟨u, hu⟩ := hall k hk
              simp [hu]
        · intro i j x av hx hav
          have hi : i < len := by
            have := (List.getElem?_eq_some_iff.1 hx).1
            rwa [hlen] at this
          have hx' : f i = x := by simpa [hi] using hx
          subst hx'
          obtain ⟨c, hd, hcl, hc⟩ := hcell i hi
          have hj : j < sz τ := by
            have := (List.getElem?_eq_some_iff.1 hav).1
            rwa [enc_length] at this
          have := hc j hj
          rw [this, List.getElem?_eq_getElem (by omega)]
          exact hd.2 j av _ hav (List.getElem?_eq_getElem (by omega))
      rw [hlen] at key
      exact key
    · rw [hlen]
      have := hw ((((List.range len).map D).length + ((List.range (m - len)).map fun j => D (len + j)).length) * P.bytesOf e) (by simp only [DataW.weights, ht]; exact List.mem_cons_self)
      rw [hB] at this
      simp only [List.length_map, List.length_range] at this
      have h2 : len * B ≤ (len + (m - len)) * B := Nat.mul_le_mul_right _ (by omega)
      unfold reachBytes at this
      omega
    · intro y hy
      obtain ⟨i, hi, rfl⟩ := List.mem_map.1 hy
      exact (hf i (List.mem_range.1 hi)).2
theorem TellsF.one {P : Program} {f : Field} {off n : Nat} {α : Type} {d : α → List AVal} {ok : α → Prop} (h : Tells P f.type n d ok) (ho : f.offset = off) (hc : P.cellsOf f.type = n) : TellsF P [f] off n d ok := by
  intro H enc W base spare held fuel cs xs hx hl hcs hw
  match xs, hl with
  | [x], _ =>
    have h0 := hx 0 f rfl
    rw [ho, hc, List.take_of_length_le (by rw [List.length_drop]; omega)] at h0
    obtain ⟨y, hy, hok⟩ := h H enc W base spare held fuel _ x h0 (hw 0 f x rfl rfl)
    exact ⟨y, hy.1, hok⟩
theorem TellsF.cons {P : Program} {f : Field} {fs : List Field} {off n n' : Nat} {α β : Type} {d : α → List AVal} {d' : β → List AVal} {ok : α → Prop} {ok' : β → Prop} (h : Tells P f.type n d ok) (ho : f.offset = off) (hc : P.cellsOf f.type = n)
    (r : TellsF P fs (off + n) n' d' ok') : TellsF P (f :: fs) off (n + n') (fun x : α × β => d x.1 ++ d' x.2) (fun x => ok x.1 ∧ ok' x.2) := by
  intro H enc W base spare held fuel cs xs hx hl hcs hw
  match xs, hl with
  | x :: xs, hl =>
    have h0 := hx 0 f rfl
    rw [ho, hc] at h0
    obtain ⟨y, hy, hok⟩ := h H enc W base spare held fuel _ x h0 (hw 0 f x rfl rfl)
    obtain ⟨y', hy', hok'⟩ := r H enc W base spare held fuel cs xs (fun i g hg => hx (i + 1) g hg) (by simpa using hl) (by omega) (fun i g z hg hz => hw (i + 1) g z hg hz)
    refine ⟨(y, y'), ?_, hok, hok'⟩
    have := hy.1.append hy'
    rw [← List.drop_drop, List.take_append_drop] at this
    exact this
theorem weights_each {H : Type} {P : Program} {fs : List Field} : ∀ {xs : List (DataW H × List MemPlace)} {i : Nat} {f : Field} {x : DataW H × List MemPlace}, fs[i]? = some f → xs[i]? = some x → ∀ b ∈ x.1.weights P f.type, b ∈ DataW.weightsEach P (fs.map (·.type)) (xs.map (·.1)) := by
  intro xs i f x hf hx b hb
  exact DataW.weights_mem_each (j := i) (t := f.type) (d := x.1) (by simp [hf]) (by simp [hx]) b hb
theorem Tells.struct {P : Program} {t : TypeId} {fs : Array Field} (ht : P.underlying t = some (.struct fs)) {α : Type} {n : Nat} {d : α → List AVal} {ok : α → Prop} (h : TellsF P fs.toList 0 n d ok) (hc : P.cellsOf t = n) : Tells P t n d ok := by
  intro H enc W base spare held fuel cs x hx hw
  obtain ⟨xs, m, _, rfl, hl, hlen, hf⟩ := DataW.trod_struct ht hx
  obtain ⟨y, hy, hok⟩ := h H enc W base spare held m cs xs (fun i f hi => hf i f (by rw [← Array.getElem?_toList]; exact hi)) (by simpa using hlen) (by omega) (fun i f x hi hx b hb => hw b (by
    simp only [DataW.weights, ht]
    exact weights_each hi hx b hb))
  exact ⟨y, ⟨by simpa using hy, by omega⟩, hok⟩
/-- An array's elements in line, as fields. -/
theorem Tells.array {P : Program} {t e : TypeId} {k : Nat} (ht : P.underlying t = some (.array k e)) {α : Type} {n : Nat} {d : α → List AVal} {ok : α → Prop} (h : TellsF P ((List.range k).map fun i => { name := "", type := e, offset := i * P.cellsOf e, embedded := false, tag := "", pkgPath := "", byteOffset := 0 }) 0 n d ok)
    (hc : P.cellsOf t = n) : Tells P t n d ok := by
  intro H enc W base spare held fuel cs x hx hw
  obtain ⟨xs, m, _, rfl, hl, hlen, hf⟩ := DataW.trod_array ht hx
  obtain ⟨y, hy, hok⟩ := h H enc W base spare held m cs xs (fun i f hi => by
      have hin : i < k := by
        rcases Nat.lt_or_ge i k with h | h
        · exact h
        · simp [h] at hi
      simp [hin] at hi
      subst hi
      exact hf i hin) (by simpa using hlen) (by omega) (fun i f x hi hx b hb => hw b (by
    have hin : i < k := by
      rcases Nat.lt_or_ge i k with h | h
      · exact h
      · simp [h] at hi
    simp [hin] at hi
    subst hi
    simp only [DataW.weights, ht]
    exact weights_all (List.mem_map.2 ⟨x, List.mem_iff_getElem?.2 ⟨i, hx⟩, rfl⟩) hb))
  exact ⟨y, ⟨by simpa using hy, by omega⟩, hok⟩
/-- The same data, told by another name. -/
theorem Tells.as {P : Program} {t : TypeId} {α β : Type} {n : Nat} {d : α → List AVal} {ok : α → Prop} (h : Tells P t n d ok) (g : α → β) (d' : β → List AVal) (hd : ∀ a, d' (g a) = d a) (ok' : β → Prop) (hok : ∀ a, ok a → ok' (g a)) : Tells P t n d' ok' := by
  intro H enc W base spare held fuel cs x hx hw
  obtain ⟨y, hy, hk⟩ := h H enc W base spare held fuel cs x hx hw
  exact ⟨g y, by rw [hd]; exact hy, hok y hk⟩
theorem okWide_agg {P : Program} {w : World} {r : Reach} {base : Nat} {t : TypeId} {v : Value} (ht : (∃ fs, P.underlying t = some (.struct fs)) ∨ ∃ n e, P.underlying t = some (.array n e)) (h : Value.okWide P w r base t v) : ∃ cs, v = .agg cs ∧ cs.size = P.cellsOf t := by
  rcases ht with ⟨fs, ht⟩ | ⟨n, e, ht⟩
  all_goals
    simp only [Value.okWide, ht] at h
    obtain ⟨cs, h1, h2, _⟩ := h
    exact ⟨cs, h1, h2⟩
section
variable {P : Program} {t : TypeId} {α : Type} {n : Nat} {d : α → List AVal} {ok : α → Prop} {H : Type} {enc : TypeId × Value → H} {W : World} {base : Nat} {spare : Nat → Bool} {held : Bool} {x : DataW H} {ps : List MemPlace} {ts : List TypeId} {ds : List (DataW H)}
/-- A struct (an array) that came in by value. -/
theorem Tells.agg (h : Tells P t n d ok) {cs : Array Value} (hsz : (DataW.weightsEach P ts ds).all (· ≤ reachBytes) = true) (j : Nat) (ht : ts[j]? = some t) (hd : ds[j]? = some x)
    (hx : DataW.Trod enc P W base spare held t (.agg cs) x ps) : ∃ y : α, Den W noC nm0 (.agg (d y)) (.agg cs) ∧ ok y := by
  obtain ⟨fuel, hf⟩ := hx
  have hf' : DataW.trod enc P W base spare held fuel t cs.toList = some (x, ps) := by simpa [Value.cells] using hf
  obtain ⟨y, ⟨hy, _⟩, hok⟩ := h H enc W base spare held fuel cs.toList (x, ps) hf' (fun b hb => by simpa using List.all_eq_true.1 hsz b (DataW.weights_mem_each ht hd b hb))
  exact ⟨y, .agg cs.toList hy.1 hy.2, hok⟩
/-- A value of one cell that came in. -/
theorem Tells.cell {f : α → AVal} (h : Tells P t 1 (fun y => [f y]) ok) {v : Value} (hv : v.cells = #[v]) (hsz : (DataW.weightsEach P ts ds).all (· ≤ reachBytes) = true) (j : Nat) (ht : ts[j]? = some t) (hd : ds[j]? = some x)
    (hx : DataW.Trod enc P W base spare held t v x ps) : ∃ y : α, Den W noC nm0 (f y) v ∧ ok y := by
  obtain ⟨fuel, hf⟩ := hx
  have hf' : DataW.trod enc P W base spare held fuel t [v] = some (x, ps) := by simpa [hv] using hf
  obtain ⟨y, ⟨hy, _⟩, hok⟩ := h H enc W base spare held fuel [v] (x, ps) hf' (fun b hb => by simpa using List.all_eq_true.1 hsz b (DataW.weights_mem_each ht hd b hb))
  exact ⟨y, hy.2 0 _ v rfl rfl, hok⟩
end
/-- A proved law at arguments that can only be read. -/
theorem law_ok {P : Program} {f : Nat} {sp : Spec} (hv : Valid P f sp) {W : World} {args : List AVal} {vals : List Value} (hd : DenL W noC nm0 args vals) (h : ∀ K : AVal → Hp → Nat → Prop, K (.v (.bool true)) [] 0 → sp.f args [] K) :
    Calls P f ⟨vals⟩ W fun e w' => e = .returned (.bool true) ∧ Below W.heap.size W w' := by
  refine Calls.mono (hv W noC nm0 args vals [] (fun r _ _ => r = .v (.bool true)) hd ?_ (h _ rfl)) ?_
  · exact ⟨fun m o h => (by cases h), fun m o m' o' b x b' x' h => (by cases h), fun m o b x h => (by cases h), fun m _ => rfl, rfl, rfl, rfl, Nat.le_refl _, fun b _ _ => rfl⟩
  · rintro e w' ⟨r, v, L', nx', ρ', rfl, hden, hp, _, hr⟩
    subst hr
    rw [den_v hden]
    exact ⟨rfl, hp.os, hp.tape, hp.output, hp.size, fun k hk => hp.old k hk (fun h => h)⟩
end Go.Proofs.YthghcialeghgoaaDoorE

/-! The law FnTimers, as its row states it: whatever the input the law returns true; no condition. -/
namespace Go.Proofs.YthghcialeghgoaaDoor.fnTimers
open Go.ChangeShapes Go.WideShapes Go.ChangeAt Go.RowKit Go.Proofs.YthghcialeghgoaaDoorE
set_option linter.unusedVariables false
theorem own : ownKnob Tryd.prog.godebug = none := by kernel_rfl
theorem laidOut : laidOutB Tryd.prog = true := by kernel_rfl
theorem T5 : Tells Tryd.prog 5 (sz .byte) (enc .byte) (fun x : Int => 0 ≤ x ∧ x ≤ 255) := (Tells.int Tryd.underlying5).as (fun n : Int => n) (enc .byte) (fun _ => rfl) _ (fun n h => by
  simp [Lit.wf, IntKind.min, IntKind.max, IntKind.bits, IntKind.signed] at h
  omega)
theorem T37 : Tells Tryd.prog 37 1 (fun xs : List Int => [.rs .byte xs]) (fun xs => ∀ x ∈ xs, 0 ≤ x ∧ x ≤ 255) := (Tells.slice (τ := .byte) Tryd.underlying37 T5 (by kernel_rfl) (B := 1) (by kernel_rfl)).as id _ (fun _ => rfl) _ (fun xs h => h.2.2)
def cellsD : Nat → DataW Unit → List Value
  | 0, _ => []
  | _ + 1, .lit (.int k n) => [.int k n]
  | f + 1, .agg l => (l.map (cellsD f)).flatten
  | _, _ => []
/-- A world that meets the row's condition: the settled one, the two listed variables laid. -/
noncomputable def laidWorld (os : Os) : World :=
  let w0 := World.holding Tryd.prog os ⟨#[], #[], []⟩
  { w0 with heap := (w0.heap.modify 1 fun
      | .cells _ t frozen => .cells (cellsD 5 Rows.laid_unicode_utf8_acceptRanges).toArray t frozen
      | o => o).modify 0 fun
      | .cells _ t frozen => .cells (cellsD 5 Rows.laid_unicode_utf8_first).toArray t frozen
      | o => o }
set_option maxRecDepth 100000 in
theorem laidWorld_met (os : Os) (args : Array Value) : laidMetH Tryd.prog Rows.fnTimersRow.laid ((laidWorld os).forCall (fun _ _ => 0) ⟨#[], args, []⟩).memory :=
  laidMetH_of_parts (laidMet_of_run' 8 (by kernel_rfl) (by kernel_rfl)) (by kernel_rfl)
set_option maxRecDepth 100000 in
set_option maxHeartbeats 1000000 in
theorem lifted (os : Os) (started : os.Started) (H : Type) (enc : TypeId × Value → H) :
    ReturnsInHanded {} Tryd.checked os 8 .any (fun w args => (Rows.fnTimersSpec.pre enc Tryd.prog Tryd.f8 [] false w args ∧ laidMetH Tryd.prog Rows.fnTimersRow.laid w) ∧ sizedMet enc Tryd.prog Tryd.f8 (OpenSpec.ofChange Rows.fnTimersSpec) false w args) (Rows.fnTimersSpec.post enc Tryd.prog Tryd.f8 false true false false) := by
  refine returnsInHanded_of_change_and (C := Tryd.checked) (X := fun w _ => laidMetH Tryd.prog Rows.fnTimersRow.laid w) (fun _ _ _ hh h => h.of_heap hh) own started (by kernel_rfl) Tryd.func8
    (ChangeSpec.witness_at (enc := enc) (C := Tryd.checked) (os := os) (X := fun w _ => laidMetH Tryd.prog Rows.fnTimersRow.laid w) false (laidWorld os) #[.slice none 0 0] 8 rfl (by kernel_rfl) (by kernel_rfl) (by kernel_rfl) (by kernel_rfl) (by kernel_rfl) (laidWorld_met os _)) ?_
  intro W base args ds gs before hval0 hW hcnd hsz0 _ _
  have hsz : (DataW.weightsEach Tryd.prog (Tryd.f8.params.toList ++ Rows.fnTimersSpec.plain.varTypes Tryd.prog) (ds ++ gs)).all (· ≤ reachBytes) = true := hsz0
  have hval : ∀ (j : Nat) t v, Tryd.f8.params[j]? = some t → args[j]? = some v → Value.okWide Tryd.prog W .any base t v := hval0
  have hW' := hW
  obtain ⟨p, q, hA0, hV, rfl, hfz, hnd⟩ := hW
  have hA : DataW.TrodAll enc Tryd.prog W 0 (fun _ => true) true Tryd.f8.params.toList args.toList ds p := hA0
  rw [Tryd.params8] at hA hval hsz
  obtain ⟨v0, vs0, d0, ds0, p0, q0, hargs, rfl, rfl, h0, r0⟩ := trodAll_cons hA
  obtain ⟨rfl, rfl, rfl⟩ := trodAll_nil r0
  obtain rfl : args = #[v0] := by cases args; simp_all
  obtain ⟨rfl, rfl⟩ := trodVars_none hV
  obtain ⟨ax0, len0, cap0, rfl⟩ := okWide_slice Tryd.underlying37 (hval 0 37 v0 rfl rfl)
  have k0 := h0
  have lt0 : ∀ x ∈ p0, x.block < W.heap.size := by obtain ⟨m, hm⟩ := k0; exact DataW.trod_lt m _ _ _ hm
  obtain ⟨y0, hK0, o0⟩ := Tells.cell T37 rfl hsz 0 rfl rfl h0
  clear hA0 hval0 hsz0 hsz
  refine (law_ok valid8 (DenL.cons hK0 .nil) (fun K hk => ⟨o0, hk⟩)).mono fun e W' ⟨he, bel⟩ => ?_
  subst he
  exact ⟨_, rfl, _, _, _, [], _, [], hW', trodAll_mk1 (shut_bool Tryd.underlying4 _), (trodAll_cons_mk (Below.trod laidOut (by kernel_rfl) (of_decide_eq_true (by kernel_rfl)) k0 bel lt0) trodAll_mk0), rfl, bel.frame _, fun h => by cases h⟩
theorem over : Rows.fnTimersRow.holds Tryd.pinned (OpenSpec.ofChange Rows.fnTimersSpec) :=
  OpenClaim.holds_of_wide 8 Tryd.f8 rfl rfl rfl rfl rfl rfl rfl ⟨rfl, rfl, rfl, rfl, rfl⟩ rfl rfl rfl rfl rfl (by kernel_rfl) Tryd.func8 (by kernel_rfl)
    (of_decide_eq_true (by kernel_rfl)) (by unfold Func.isWrapper; first | (rw [if_pos (by decide +kernel)]; kernel_rfl) | (rw [if_neg (by decide +kernel)]; exact ⟨rfl, rfl⟩))
    (fun os started H enc _ => lifted os started H enc)
theorem proved : Rows.FnTimersSaid := over
#print axioms proved
theorem card_holds : Rows.FnTimersCardSaid :=
  Claim7.holds_tied_plain_at .later [] [.data, .pinned] true (true, "bf0cd3b26e7dbb95da6880f074a3aaa577be5677f8b4a5afac8a3bc93b35382b") false
    over (fun _ h => by cases h) (by kernel_rfl) (fun _ h => by cases h) fnTimers_row_tie rfl ⟨rfl, rfl⟩ (by kernel_rfl) rfl
    (fun f fn hf hfn => by
      obtain rfl : f = 8 := Option.some.inj ((show Tryd.prog.funcNamed "loop.example/g00052/laws.FnTimers" = some 8 by kernel_rfl).symm.trans hf) |>.symm
      obtain rfl : fn = Tryd.f8 := (Option.some.inj (Tryd.func8.symm.trans hfn)).symm
      exact ⟨by kernel_rfl, fun j t ht => by
        rw [Tryd.params8] at ht
        have h3 : t = 37 := by
          have := Array.mem_of_getElem? ht
          simpa using this
        rcases h3 with rfl
        · exact (show Tryd.prog.wantsStandIn 37 = false by kernel_rfl)⟩)
    (by kernel_rfl)
#print axioms card_holds
end Go.Proofs.YthghcialeghgoaaDoor.fnTimers
namespace Go.Proofs.YthghcialeghgoaaDoor
/-- The row, under a short name, for the claim. -/
theorem fnTimers_holds : Rows.FnTimersCardSaid := fnTimers.card_holds
end Go.Proofs.YthghcialeghgoaaDoor
