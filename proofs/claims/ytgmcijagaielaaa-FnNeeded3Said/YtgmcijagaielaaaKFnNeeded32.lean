/- A part of a proof that a law of the given program holds for every input: no condition. -/
import Derived.Test.YtgmcijagaielaaaProg
import Derived.KernelRfl
import Derived.Test.YtgmcijagaielaaaKFnNeeded31

set_option linter.unusedSimpArgs false
set_option linter.unusedVariables false
/-! The code of a function, in the engine's words. -/
namespace Go.Proofs.YtgmcijagaielaaaE
open Go Go.RowKit
@[reducible] def ic44 : IC := (.seq (.ops [⟨some 3, .box (.tmp 0), none⟩, ⟨some 6, .mov (.const (.int .i64 0)), none⟩]) (.seq (.seq (.ops [⟨some 7, .mov (.const (.int .i64 0)), none⟩]) (.block 0 (.loop (.seq (.seq (.ops [⟨some 8, .mov (.tmp 7), none⟩, ⟨some 9, .fadr 3 (.tmp 3), none⟩, ⟨some 10, .load 1 false (.tmp 9), none⟩, ⟨some 11, .len (.tmp 10), none⟩, ⟨some 12, .bin .lss (.tmp 8) (.tmp 11), none⟩]) (.cond (.tmp 12) .skip (.exit 0))) (.seq (.block 1 (.seq (.draw [⟨some 15, .fadr 3 (.tmp 3), none⟩, ⟨some 16, .load 1 false (.tmp 15), none⟩, ⟨some 17, .mov (.tmp 7), none⟩, ⟨some 18, .iadr 3 (.tmp 16) (.tmp 17), none⟩, ⟨some 19, .fadr 0 (.tmp 18), none⟩, ⟨some 20, .load 1 false (.tmp 19), none⟩, ⟨some 21, .fadr 1 (.tmp 3), none⟩, ⟨some 22, .load 1 false (.tmp 21), none⟩, ⟨some 23, .bin .quo (.tmp 20) (.tmp 22), none⟩, ⟨some 24, .mov (.tmp 1), none⟩, ⟨some 25, .bin .eql (.tmp 23) (.tmp 24), none⟩, ⟨some 26, .mov (.tmp 25), none⟩, ⟨some 27, .fadr 3 (.tmp 3), some (26, true)⟩, ⟨some 28, .load 1 false (.tmp 27), some (26, true)⟩, ⟨some 29, .mov (.tmp 7), some (26, true)⟩, ⟨some 30, .iadr 3 (.tmp 28) (.tmp 29), some (26, true)⟩, ⟨some 31, .fadr 2 (.tmp 30), some (26, true)⟩, ⟨some 32, .load 1 false (.tmp 31), some (26, true)⟩, ⟨some 33, .mov (.tmp 2), some (26, true)⟩, ⟨some 34, .bin .eql (.tmp 32) (.tmp 33), some (26, true)⟩, ⟨some 35, .pick (.tmp 26) (.tmp 34) (.const (.bool false)), none⟩] (.held ⟨some 15, .fadr 3 (.tmp 3), none⟩ (.held ⟨some 16, .load 1 false (.tmp 15), none⟩ (.held ⟨some 17, .mov (.tmp 7), none⟩ (.held ⟨some 18, .iadr 3 (.tmp 16) (.tmp 17), none⟩ (.held ⟨some 19, .fadr 0 (.tmp 18), none⟩ (.held ⟨some 20, .load 1 false (.tmp 19), none⟩ (.held ⟨some 21, .fadr 1 (.tmp 3), none⟩ (.held ⟨some 22, .load 1 false (.tmp 21), none⟩ (.held ⟨some 23, .bin .quo (.tmp 20) (.tmp 22), none⟩ (.held ⟨some 24, .mov (.tmp 1), none⟩ (.held ⟨some 25, .bin .eql (.tmp 23) (.tmp 24), none⟩ (.held ⟨some 26, .mov (.tmp 25), none⟩ (.held ⟨some 27, .fadr 3 (.tmp 3), some (26, true)⟩ (.held ⟨some 28, .load 1 false (.tmp 27), some (26, true)⟩ (.held ⟨some 29, .mov (.tmp 7), some (26, true)⟩ (.held ⟨some 30, .iadr 3 (.tmp 28) (.tmp 29), some (26, true)⟩ (.held ⟨some 31, .fadr 2 (.tmp 30), some (26, true)⟩ (.held ⟨some 32, .load 1 false (.tmp 31), some (26, true)⟩ (.held ⟨some 33, .mov (.tmp 2), some (26, true)⟩ (.held ⟨some 34, .bin .eql (.tmp 32) (.tmp 33), some (26, true)⟩ (.held ⟨some 35, .pick (.tmp 26) (.tmp 34) (.const (.bool false)), none⟩ .done)))))))))))))))))))))) (.cond (.tmp 35) (.seq (.ops [⟨some 36, .mov (.tmp 7), none⟩, ⟨some 6, .mov (.tmp 36), none⟩]) .ret) .skip))) (.ops [⟨some 13, .mov (.tmp 7), none⟩, ⟨some 14, .bin .add (.tmp 13) (.const (.int .i64 1)), none⟩, ⟨some 7, .mov (.tmp 14), none⟩])))))) (.seq (.ops [⟨some 6, .mov (.const (.int .i64 (-1))), none⟩]) .ret)))
@[reducible] def rv44 : List RV := [.tmp 6]
theorem low44 : lowC Try.prog tau Try.f44.ntmps (Try.f44.body.getD .skip) = some (erase ic44) := by kernel_rfl
theorem res44 : lowR Try.prog Try.f44.results.toList = some rv44 := by kernel_rfl
theorem bod44 : Try.f44.body = some (Try.f44.body.getD .skip) := by kernel_rfl
theorem cal44 : callable Try.prog 44 = true := by kernel_rfl

end Go.Proofs.YtgmcijagaielaaaE

/-! The code of a function, in the engine's words. -/
namespace Go.Proofs.YtgmcijagaielaaaE
open Go Go.RowKit
@[reducible] def ic45 : IC := (.seq (.ops [⟨some 3, .box (.tmp 0), none⟩, ⟨some 6, .mov (.const (.int .i64 0)), none⟩]) (.seq (.seq (.ops [⟨some 7, .mov (.const (.int .i64 0)), none⟩]) (.block 0 (.loop (.seq (.seq (.ops [⟨some 8, .mov (.tmp 7), none⟩, ⟨some 9, .fadr 3 (.tmp 3), none⟩, ⟨some 10, .load 1 false (.tmp 9), none⟩, ⟨some 11, .len (.tmp 10), none⟩, ⟨some 12, .bin .lss (.tmp 8) (.tmp 11), none⟩]) (.cond (.tmp 12) .skip (.exit 0))) (.seq (.block 1 (.seq (.draw [⟨some 15, .fadr 3 (.tmp 3), none⟩, ⟨some 16, .load 1 false (.tmp 15), none⟩, ⟨some 17, .mov (.tmp 7), none⟩, ⟨some 18, .iadr 3 (.tmp 16) (.tmp 17), none⟩, ⟨some 19, .fadr 1 (.tmp 18), none⟩, ⟨some 20, .load 1 false (.tmp 19), none⟩, ⟨some 21, .fadr 1 (.tmp 3), none⟩, ⟨some 22, .load 1 false (.tmp 21), none⟩, ⟨some 23, .bin .quo (.tmp 20) (.tmp 22), none⟩, ⟨some 24, .mov (.tmp 1), none⟩, ⟨some 25, .bin .eql (.tmp 23) (.tmp 24), none⟩, ⟨some 26, .mov (.tmp 25), none⟩, ⟨some 27, .fadr 3 (.tmp 3), some (26, true)⟩, ⟨some 28, .load 1 false (.tmp 27), some (26, true)⟩, ⟨some 29, .mov (.tmp 7), some (26, true)⟩, ⟨some 30, .iadr 3 (.tmp 28) (.tmp 29), some (26, true)⟩, ⟨some 31, .fadr 2 (.tmp 30), some (26, true)⟩, ⟨some 32, .load 1 false (.tmp 31), some (26, true)⟩, ⟨some 33, .mov (.tmp 2), some (26, true)⟩, ⟨some 34, .bin .eql (.tmp 32) (.tmp 33), some (26, true)⟩, ⟨some 35, .pick (.tmp 26) (.tmp 34) (.const (.bool false)), none⟩] (.held ⟨some 15, .fadr 3 (.tmp 3), none⟩ (.held ⟨some 16, .load 1 false (.tmp 15), none⟩ (.held ⟨some 17, .mov (.tmp 7), none⟩ (.held ⟨some 18, .iadr 3 (.tmp 16) (.tmp 17), none⟩ (.held ⟨some 19, .fadr 1 (.tmp 18), none⟩ (.held ⟨some 20, .load 1 false (.tmp 19), none⟩ (.held ⟨some 21, .fadr 1 (.tmp 3), none⟩ (.held ⟨some 22, .load 1 false (.tmp 21), none⟩ (.held ⟨some 23, .bin .quo (.tmp 20) (.tmp 22), none⟩ (.held ⟨some 24, .mov (.tmp 1), none⟩ (.held ⟨some 25, .bin .eql (.tmp 23) (.tmp 24), none⟩ (.held ⟨some 26, .mov (.tmp 25), none⟩ (.held ⟨some 27, .fadr 3 (.tmp 3), some (26, true)⟩ (.held ⟨some 28, .load 1 false (.tmp 27), some (26, true)⟩ (.held ⟨some 29, .mov (.tmp 7), some (26, true)⟩ (.held ⟨some 30, .iadr 3 (.tmp 28) (.tmp 29), some (26, true)⟩ (.held ⟨some 31, .fadr 2 (.tmp 30), some (26, true)⟩ (.held ⟨some 32, .load 1 false (.tmp 31), some (26, true)⟩ (.held ⟨some 33, .mov (.tmp 2), some (26, true)⟩ (.held ⟨some 34, .bin .eql (.tmp 32) (.tmp 33), some (26, true)⟩ (.held ⟨some 35, .pick (.tmp 26) (.tmp 34) (.const (.bool false)), none⟩ .done)))))))))))))))))))))) (.cond (.tmp 35) (.seq (.ops [⟨some 36, .mov (.tmp 7), none⟩, ⟨some 6, .mov (.tmp 36), none⟩]) .ret) .skip))) (.ops [⟨some 13, .mov (.tmp 7), none⟩, ⟨some 14, .bin .add (.tmp 13) (.const (.int .i64 1)), none⟩, ⟨some 7, .mov (.tmp 14), none⟩])))))) (.seq (.ops [⟨some 6, .mov (.const (.int .i64 (-1))), none⟩]) .ret)))
@[reducible] def rv45 : List RV := [.tmp 6]
theorem low45 : lowC Try.prog tau Try.f45.ntmps (Try.f45.body.getD .skip) = some (erase ic45) := by kernel_rfl
theorem res45 : lowR Try.prog Try.f45.results.toList = some rv45 := by kernel_rfl
theorem bod45 : Try.f45.body = some (Try.f45.body.getD .skip) := by kernel_rfl
theorem cal45 : callable Try.prog 45 = true := by kernel_rfl

end Go.Proofs.YtgmcijagaielaaaE

/-! The code of a function, in the engine's words. -/
namespace Go.Proofs.YtgmcijagaielaaaE
open Go Go.RowKit
@[reducible] def ic49 : IC := (.seq (.ops [⟨some 4, .mov (.const (.bool false)), none⟩]) (.seq (.ops [⟨some 5, .mov (.tmp 0), none⟩, ⟨some 6, .mov (.tmp 1), none⟩, ⟨some 7, .call 41 [(.tmp 5), (.tmp 6)], none⟩, ⟨some 8, .bin .geq (.tmp 7) (.const (.int .i64 0)), none⟩, ⟨some 4, .mov (.tmp 8), none⟩]) .ret))
@[reducible] def rv49 : List RV := [.tmp 4]
theorem low49 : lowC Try.prog tau Try.f49.ntmps (Try.f49.body.getD .skip) = some (erase ic49) := by kernel_rfl
theorem res49 : lowR Try.prog Try.f49.results.toList = some rv49 := by kernel_rfl
theorem bod49 : Try.f49.body = some (Try.f49.body.getD .skip) := by kernel_rfl
theorem cal49 : callable Try.prog 49 = true := by kernel_rfl

end Go.Proofs.YtgmcijagaielaaaE

/-! The code of a function, in the engine's words. -/
namespace Go.Proofs.YtgmcijagaielaaaE
open Go Go.RowKit
@[reducible] def ic50 : IC := (.seq (.ops [⟨some 3, .box (.tmp 0), none⟩, ⟨some 4, .mov (.const (.bool false)), none⟩]) (.seq (.ops [⟨some 5, .fadr 0 (.tmp 3), none⟩, ⟨some 6, .load 1 false (.tmp 5), none⟩, ⟨some 7, .load 1 false (.tmp 1), none⟩, ⟨some 8, .bin .eql (.tmp 6) (.tmp 7), none⟩, ⟨some 9, .mov (.tmp 8), none⟩, ⟨some 10, .fadr 1 (.tmp 3), some (9, false)⟩, ⟨some 11, .load 1 false (.tmp 10), some (9, false)⟩, ⟨some 12, .load 1 false (.tmp 2), some (9, false)⟩, ⟨some 13, .bin .eql (.tmp 11) (.tmp 12), some (9, false)⟩, ⟨some 14, .pick (.tmp 9) (.const (.bool true)) (.tmp 13), none⟩, ⟨some 4, .mov (.tmp 14), none⟩]) .ret))
@[reducible] def rv50 : List RV := [.tmp 4]
theorem low50 : lowC Try.prog tau Try.f50.ntmps (Try.f50.body.getD .skip) = some (erase ic50) := by kernel_rfl
theorem res50 : lowR Try.prog Try.f50.results.toList = some rv50 := by kernel_rfl
theorem bod50 : Try.f50.body = some (Try.f50.body.getD .skip) := by kernel_rfl
theorem cal50 : callable Try.prog 50 = true := by kernel_rfl

end Go.Proofs.YtgmcijagaielaaaE

/-! The code of a function, in the engine's words. -/
namespace Go.Proofs.YtgmcijagaielaaaE
open Go Go.RowKit
@[reducible] def ic52 : IC := (.seq (.ops [⟨some 4, .box (.tmp 0), none⟩, ⟨some 5, .box (.tmp 1), none⟩, ⟨some 6, .box (.tmp 2), none⟩, ⟨some 7, .box (.tmp 3), none⟩, ⟨some 8, .mov (.const (.int .i64 0)), none⟩]) (.seq (.ops [⟨some 9, .fadr 3 (.tmp 4), none⟩, ⟨some 10, .load 1 false (.tmp 9), none⟩, ⟨some 11, .mfn 59 [(.tmp 4), (.tmp 5), (.tmp 6), (.tmp 7)], none⟩, ⟨some 12, .call 41 [(.tmp 10), (.tmp 11)], none⟩, ⟨some 8, .mov (.tmp 12), none⟩]) .ret))
@[reducible] def rv52 : List RV := [.tmp 8]
theorem low52 : lowC Try.prog tau Try.f52.ntmps (Try.f52.body.getD .skip) = some (erase ic52) := by kernel_rfl
theorem res52 : lowR Try.prog Try.f52.results.toList = some rv52 := by kernel_rfl
theorem bod52 : Try.f52.body = some (Try.f52.body.getD .skip) := by kernel_rfl
theorem cal52 : callable Try.prog 52 = true := by kernel_rfl

end Go.Proofs.YtgmcijagaielaaaE

/-! The code of a function, in the engine's words. -/
namespace Go.Proofs.YtgmcijagaielaaaE
open Go Go.RowKit
@[reducible] def ic59 : IC := (.seq (.ops [⟨some 5, .box (.tmp 0), none⟩, ⟨some 6, .mov (.const (.bool false)), none⟩]) (.seq (.ops [⟨some 8, .fadr 0 (.tmp 5), none⟩, ⟨some 9, .load 1 false (.tmp 8), none⟩, ⟨some 10, .fadr 1 (.tmp 1), none⟩, ⟨some 11, .load 1 false (.tmp 10), none⟩, ⟨some 12, .bin .quo (.tmp 9) (.tmp 11), none⟩, ⟨some 7, .mov (.tmp 12), none⟩]) (.seq (.seq (.ops [⟨some 13, .load 1 false (.tmp 2), none⟩]) (.cond (.tmp 13) (.ops [⟨some 14, .fadr 1 (.tmp 5), none⟩, ⟨some 15, .load 1 false (.tmp 14), none⟩, ⟨some 16, .fadr 1 (.tmp 1), none⟩, ⟨some 17, .load 1 false (.tmp 16), none⟩, ⟨some 18, .bin .quo (.tmp 15) (.tmp 17), none⟩, ⟨some 7, .mov (.tmp 18), none⟩]) .skip)) (.seq (.ops [⟨some 19, .mov (.tmp 7), none⟩, ⟨some 20, .load 1 false (.tmp 3), none⟩, ⟨some 21, .bin .eql (.tmp 19) (.tmp 20), none⟩, ⟨some 22, .mov (.tmp 21), none⟩, ⟨some 23, .fadr 2 (.tmp 5), some (22, true)⟩, ⟨some 24, .load 1 false (.tmp 23), some (22, true)⟩, ⟨some 25, .load 1 false (.tmp 4), some (22, true)⟩, ⟨some 26, .bin .eql (.tmp 24) (.tmp 25), some (22, true)⟩, ⟨some 27, .pick (.tmp 22) (.tmp 26) (.const (.bool false)), none⟩, ⟨some 6, .mov (.tmp 27), none⟩]) .ret))))
@[reducible] def rv59 : List RV := [.tmp 6]
theorem low59 : lowC Try.prog tau Try.f59.ntmps (Try.f59.body.getD .skip) = some (erase ic59) := by kernel_rfl
theorem res59 : lowR Try.prog Try.f59.results.toList = some rv59 := by kernel_rfl
theorem bod59 : Try.f59.body = some (Try.f59.body.getD .skip) := by kernel_rfl
theorem cal59 : callable Try.prog 59 = true := by kernel_rfl

end Go.Proofs.YtgmcijagaielaaaE

/-! A path is looked for. -/
namespace Go.Proofs.YtgmcijagaielaaaE
open Go Go.RowKit
set_option linter.unusedSimpArgs false
set_option linter.unusedVariables false
set_option maxRecDepth 20000
set_option maxHeartbeats 4000000

/-- The first place of which P is true; -1: there is none. -/
def fidx (P : Pth → Bool) (q : List Pth) : Int := if q.findIdx P < q.length then q.findIdx P else -1
theorem fidx_hit {P : Pth → Bool} {q : List Pth} {j : Nat} (hj : j < q.length) (hpre : ∀ i, i < j → P (q.getD i Pz) = false) (h : P (q.getD j Pz) = true) : fidx P q = j := by
  have e : q.findIdx P = j := by
    rw [List.findIdx_eq hj]
    refine ⟨by simpa [List.getD, hj] using h, fun i hi => ?_⟩
    have := hpre i hi
    simpa [List.getD, show i < q.length by omega] using this
  unfold fidx; rw [e, if_pos hj]
theorem fidx_none {P : Pth → Bool} {q : List Pth} (hpre : ∀ i, i < q.length → P (q.getD i Pz) = false) : fidx P q = -1 := by
  unfold fidx
  rw [if_neg]
  intro h
  have h2 := List.findIdx_getElem (w := h)
  have := hpre _ h
  simp [List.getD, h] at this
  rw [this] at h2; cases h2
theorem fidx_bd (P : Pth → Bool) (q : List Pth) : -1 ≤ fidx P q ∧ fidx P q < q.length := by
  unfold fidx; split <;> omega
theorem fidx_is {P : Pth → Bool} {q : List Pth} (h : 0 ≤ fidx P q) : (fidx P q).toNat < q.length ∧ P (q.getD (fidx P q).toNat Pz) = true ∧ ∀ i, i < (fidx P q).toNat → P (q.getD i Pz) = false := by
  unfold fidx at h ⊢
  split at h
  · rename_i hlt
    rw [if_pos hlt]
    simp only [Int.toNat_natCast]
    refine ⟨hlt, ?_, fun i hi => ?_⟩
    · have h2 := List.findIdx_getElem (w := hlt)
      simpa [List.getD, hlt] using h2
    · have := List.not_of_lt_findIdx hi
      simpa [List.getD, show i < q.length by omega] using this
  · omega
theorem fidx_no {P : Pth → Bool} {q : List Pth} (h : fidx P q < 0) : ∀ i, i < q.length → P (q.getD i Pz) = false := fun i hi => by
  unfold fidx at h
  split at h
  · omega
  · rename_i hn
    have h2 : q.findIdx P = q.length := by have := List.findIdx_le_length (p := P) (xs := q); omega
    have := List.findIdx_eq_length.1 h2
    have := this q[i] (List.getElem_mem hi)
    simpa [List.getD, hi] using this
def ptrs : List AVal → List Nat
  | [] => []
  | .ptr m _ :: r => m :: ptrs r
  | .v _ :: r => ptrs r
  | _ :: r => ptrs r
theorem ptrs_nil : ptrs [] = [] := id rfl
theorem ptrs_eq {m o : Nat} {r : List AVal} : ptrs (.ptr m o :: r) = m :: ptrs r := id rfl
theorem ptrs_v {x : Value} {r : List AVal} : ptrs (.v x :: r) = ptrs r := id rfl
theorem ptrs_o {cs r : List AVal} : ptrs (.agg cs :: r) = ptrs r := id rfl
def takePs (l : List AVal) : List Nat := ptrs l
theorem takePs_eq {l : List AVal} : takePs l = ptrs l := id rfl
def takeF : List AVal → List Nat
  | [_, .fn _ caps] => ptrs caps
  | _ => []
theorem takeF_eq {x : AVal} {g : Nat} {caps : List AVal} : takeF [x, .fn g caps] = ptrs caps := id rfl
/-- Within a port's bounds. -/
def smallP (x : Pth) : Prop := (0 ≤ x.src ∧ x.src ≤ 23) ∧ (0 ≤ x.dst ∧ x.dst ≤ 23)
def allSmall (q : List Pth) : Prop := ∀ i, i < q.length → smallP (q.getD i Pz)
def atP (p : Int) (out : Bool) (side mid : Int) (x : Pth) : Bool := decide ((if out = true then x.dst else x.src).tdiv p = side ∧ x.mid = mid)
theorem atP_t {p side mid : Int} {x : Pth} : atP p true side mid x = decide (x.dst.tdiv p = side ∧ x.mid = mid) := id rfl
theorem atP_f {p side mid : Int} {x : Pth} : atP p false side mid x = decide (x.src.tdiv p = side ∧ x.mid = mid) := id rfl
def srcP (a : Int) (x : Pth) : Bool := decide (x.src = a)
def endP (a b : Int) (x : Pth) : Bool := decide (x.src = a ∨ x.dst = b)
def spClo42 : Spec := ⟨fun _ => takePs, fun args objs K => match args, objs with
  | [.agg [.v (.int .i64 a), .v (.int .i64 b), .v (.int .i64 c)], .ptr 0 0], [.box [.v (.int .i64 x)]] => K (.v (.bool (srcP x ⟨a, b, c⟩))) [(0, .box [.v (.int .i64 x)])] 1
  | _, _ => False, false⟩
theorem spClo42_t {L : Hp} {a : List AVal} : Spec.take spClo42 L a = takePs a := id rfl
theorem spClo42_k : Spec.keep spClo42 = false := id rfl
theorem spClo42_f {a} {b} {c} {x} {K : AVal → Hp → Nat → Prop} : Spec.f spClo42 ([.agg [.v (.int .i64 a), .v (.int .i64 b), .v (.int .i64 c)], .ptr 0 0]) ([.box [.v (.int .i64 x)]]) K = (K (.v (.bool (srcP x ⟨a, b, c⟩))) [(0, .box [.v (.int .i64 x)])] 1) := id rfl
theorem valid42 : Valid Try.prog 42 spClo42 := by
  refine validI (Γ := lk []) Try.func42 bod42 low42 res42 (good_of trivial) ?_
  intro E args objs K h hE hG hP
  simp only [spClo42] at h
  split at h
  · refine ⟨by simp [Try.ntmps42], ?_⟩
    simp only [srcP] at h
    simp (config := { maxSteps := 2000000 }) only [go_sem, hG, hP, Nat.reduceEqDiff, ↓reduceIte, reduceCtorEq, Nat.reduceAdd, Nat.reduceSub, Nat.reduceMul, Nat.reduceLT, Nat.reduceLeDiff, Int.reduceAdd, Int.reduceSub, Int.reduceMul, Int.reduceLT, Int.reduceLE, Int.reduceEq, Int.reduceNeg, Int.reduceNe, Int.reduceGE, Int.reduceGT, Nat.reduceBEq, Int.reduceToNat]
    exact ⟨_, _, _, by simp (config := { maxSteps := 2000000 }) only [go_sem, hG, hP, Nat.reduceEqDiff, ↓reduceIte, reduceCtorEq, Nat.reduceAdd, Nat.reduceSub, Nat.reduceMul, Nat.reduceLT, Nat.reduceLeDiff, Int.reduceAdd, Int.reduceSub, Int.reduceMul, Int.reduceLT, Int.reduceLE, Int.reduceEq, Int.reduceNeg, Int.reduceNe, Int.reduceGE, Int.reduceGT, Nat.reduceBEq, Int.reduceToNat], h⟩
  · exact h.elim
def spClo50 : Spec := ⟨fun _ => takePs, fun args objs K => match args, objs with
  | [.agg [.v (.int .i64 a), .v (.int .i64 b), .v (.int .i64 c)], .ptr 0 0, .ptr 1 0], [.box [.v (.int .i64 x)], .box [.v (.int .i64 y)]] => K (.v (.bool (endP x y ⟨a, b, c⟩))) [(0, .box [.v (.int .i64 x)]), (1, .box [.v (.int .i64 y)])] 2
  | _, _ => False, false⟩
theorem spClo50_t {L : Hp} {a : List AVal} : Spec.take spClo50 L a = takePs a := id rfl
theorem spClo50_k : Spec.keep spClo50 = false := id rfl
theorem spClo50_f {a} {b} {c} {x} {y} {K : AVal → Hp → Nat → Prop} : Spec.f spClo50 ([.agg [.v (.int .i64 a), .v (.int .i64 b), .v (.int .i64 c)], .ptr 0 0, .ptr 1 0]) ([.box [.v (.int .i64 x)], .box [.v (.int .i64 y)]]) K = (K (.v (.bool (endP x y ⟨a, b, c⟩))) [(0, .box [.v (.int .i64 x)]), (1, .box [.v (.int .i64 y)])] 2) := id rfl
theorem valid50 : Valid Try.prog 50 spClo50 := by
  refine validI (Γ := lk []) Try.func50 bod50 low50 res50 (good_of trivial) ?_
  intro E args objs K h hE hG hP
  simp only [spClo50] at h
  split at h
  · refine ⟨by simp [Try.ntmps50], ?_⟩
    simp only [endP] at h
    simp (config := { maxSteps := 2000000 }) only [go_sem, hG, hP, Nat.reduceEqDiff, ↓reduceIte, reduceCtorEq, Nat.reduceAdd, Nat.reduceSub, Nat.reduceMul, Nat.reduceLT, Nat.reduceLeDiff, Int.reduceAdd, Int.reduceSub, Int.reduceMul, Int.reduceLT, Int.reduceLE, Int.reduceEq, Int.reduceNeg, Int.reduceNe, Int.reduceGE, Int.reduceGT, Nat.reduceBEq, Int.reduceToNat]
    repeat' (first | (refine And.intro ?_ ?_) | (with_reducible intro _))
    all_goals (refine ⟨_, _, _, ?_, h⟩; simp (config := { maxSteps := 2000000 }) only [go_sem, hG, hP, Nat.reduceEqDiff, ↓reduceIte, reduceCtorEq, Nat.reduceAdd, Nat.reduceSub, Nat.reduceMul, Nat.reduceLT, Nat.reduceLeDiff, Int.reduceAdd, Int.reduceSub, Int.reduceMul, Int.reduceLT, Int.reduceLE, Int.reduceEq, Int.reduceNeg, Int.reduceNe, Int.reduceGE, Int.reduceGT, Nat.reduceBEq, Int.reduceToNat]; all_goals (first | (simp [*]; done) | omega))
  · exact h.elim
def spClo59 : Spec := ⟨fun _ => takePs, fun args objs K => match args, objs with
  | [.agg [.v (.int .i64 a), .v (.int .i64 b), .v (.int .i64 c)], .ptr 0 0, .ptr 1 0, .ptr 2 0, .ptr 3 0], [.box [s, .v (.int .i64 p), m, q], .box [.v (.bool out)], .box [.v (.int .i64 side)], .box [.v (.int .i64 mid)]] =>
      (1 ≤ p ∧ smallP ⟨a, b, c⟩) ∧ K (.v (.bool (atP p out side mid ⟨a, b, c⟩))) [(0, .box [.junk, .v (.int .i64 p), .junk, .junk]), (1, .box [.v (.bool out)]), (2, .box [.v (.int .i64 side)]), (3, .box [.v (.int .i64 mid)])] 4
  | _, _ => False, false⟩
theorem spClo59_t {L : Hp} {a : List AVal} : Spec.take spClo59 L a = takePs a := id rfl
theorem spClo59_k : Spec.keep spClo59 = false := id rfl
theorem spClo59_f {a} {b} {c} {s} {p} {m} {q} {out} {side} {mid} {K : AVal → Hp → Nat → Prop} : Spec.f spClo59 ([.agg [.v (.int .i64 a), .v (.int .i64 b), .v (.int .i64 c)], .ptr 0 0, .ptr 1 0, .ptr 2 0, .ptr 3 0]) ([.box [s, .v (.int .i64 p), m, q], .box [.v (.bool out)], .box [.v (.int .i64 side)], .box [.v (.int .i64 mid)]]) K = ((1 ≤ p ∧ smallP ⟨a, b, c⟩) ∧ K (.v (.bool (atP p out side mid ⟨a, b, c⟩))) [(0, .box [.junk, .v (.int .i64 p), .junk, .junk]), (1, .box [.v (.bool out)]), (2, .box [.v (.int .i64 side)]), (3, .box [.v (.int .i64 mid)])] 4) := id rfl
theorem valid59 : Valid Try.prog 59 spClo59 := by
  refine validI (Γ := lk []) Try.func59 bod59 low59 res59 (good_of trivial) ?_
  intro E args objs K h hE hG hP
  simp only [spClo59] at h
  split at h
  · refine ⟨by simp [Try.ntmps59], ?_⟩
    rename_i a b c s p m q out side mid
    obtain ⟨⟨hp, ⟨h1, h2⟩, h3, h4⟩, h⟩ := h
    dsimp only at h1 h2 h3 h4
    have w1 := wq h1 (by omega) hp
    have w2 := wq h3 (by omega) hp
    have pz : (p = 0) = False := eq_false (by omega)
    cases out
    · rw [atP_f] at h
      simp (config := { maxSteps := 2000000 }) only [go_sem, hG, hP, Nat.reduceEqDiff, ↓reduceIte, reduceCtorEq, Nat.reduceAdd, Nat.reduceSub, Nat.reduceMul, Nat.reduceLT, Nat.reduceLeDiff, Int.reduceAdd, Int.reduceSub, Int.reduceMul, Int.reduceLT, Int.reduceLE, Int.reduceEq, Int.reduceNeg, Int.reduceNe, Int.reduceGE, Int.reduceGT, Nat.reduceBEq, Int.reduceToNat,  w1, w2, pz]
      repeat' (first | (refine And.intro ?_ ?_) | (with_reducible intro _))
      all_goals (refine ⟨_, _, _, ?_, h⟩; simp (config := { maxSteps := 2000000 }) only [go_sem, hG, hP, Nat.reduceEqDiff, ↓reduceIte, reduceCtorEq, Nat.reduceAdd, Nat.reduceSub, Nat.reduceMul, Nat.reduceLT, Nat.reduceLeDiff, Int.reduceAdd, Int.reduceSub, Int.reduceMul, Int.reduceLT, Int.reduceLE, Int.reduceEq, Int.reduceNeg, Int.reduceNe, Int.reduceGE, Int.reduceGT, Nat.reduceBEq, Int.reduceToNat]; all_goals (first | (simp [*]; done) | omega))
    · rw [atP_t] at h
      simp (config := { maxSteps := 2000000 }) only [go_sem, hG, hP, Nat.reduceEqDiff, ↓reduceIte, reduceCtorEq, Nat.reduceAdd, Nat.reduceSub, Nat.reduceMul, Nat.reduceLT, Nat.reduceLeDiff, Int.reduceAdd, Int.reduceSub, Int.reduceMul, Int.reduceLT, Int.reduceLE, Int.reduceEq, Int.reduceNeg, Int.reduceNe, Int.reduceGE, Int.reduceGT, Nat.reduceBEq, Int.reduceToNat,  w1, w2, pz]
      repeat' (first | (refine And.intro ?_ ?_) | (with_reducible intro _))
      all_goals (refine ⟨_, _, _, ?_, h⟩; simp (config := { maxSteps := 2000000 }) only [go_sem, hG, hP, Nat.reduceEqDiff, ↓reduceIte, reduceCtorEq, Nat.reduceAdd, Nat.reduceSub, Nat.reduceMul, Nat.reduceLT, Nat.reduceLeDiff, Int.reduceAdd, Int.reduceSub, Int.reduceMul, Int.reduceLT, Int.reduceLE, Int.reduceEq, Int.reduceNeg, Int.reduceNe, Int.reduceGE, Int.reduceGT, Nat.reduceBEq, Int.reduceToNat]; all_goals (first | (simp [*]; done) | omega))
  · exact h.elim
def spIdx42 : Spec := ⟨fun _ => takeF, fun args objs K => match args, objs with
  | [.rs .path xs, .fn 42 [.ptr 0 0]], [.box [.v (.int .i64 a)]] => (xs.length ≤ 1099511627776) ∧ K (.v (.int .i64 (fidx (srcP a) xs))) [(0, .box [.v (.int .i64 a)])] 1
  | _, _ => False, false⟩
theorem spIdx42_t {L : Hp} {a : List AVal} : Spec.take spIdx42 L a = takeF a := id rfl
theorem spIdx42_k : Spec.keep spIdx42 = false := id rfl
theorem spIdx42_f {xs} {a} {K : AVal → Hp → Nat → Prop} : Spec.f spIdx42 ([.rs .path xs, .fn 42 [.ptr 0 0]]) ([.box [.v (.int .i64 a)]]) K = ((xs.length ≤ 1099511627776) ∧ K (.v (.int .i64 (fidx (srcP a) xs))) [(0, .box [.v (.int .i64 a)])] 1) := id rfl
theorem valid41_42 : Valid Try.prog 41 spIdx42 := by
  refine validI (Γ := lk [(42, spClo42)]) Try.func41 bod41 low41 res41 (good_of ⟨⟨cal42, valid42⟩, trivial⟩) ?_
  intro E args objs K h hE hG hP
  simp only [spIdx42] at h
  split at h
  · refine ⟨by simp [Try.ntmps41], ?_⟩
    rename_i xs a
    obtain ⟨b1, h⟩ := h
    simp (config := { maxSteps := 2000000 }) only [go_sem, hG, hP, Nat.reduceEqDiff, ↓reduceIte, reduceCtorEq, Nat.reduceAdd, Nat.reduceSub, Nat.reduceMul, Nat.reduceLT, Nat.reduceLeDiff, Int.reduceAdd, Int.reduceSub, Int.reduceMul, Int.reduceLT, Int.reduceLE, Int.reduceEq, Int.reduceNeg, Int.reduceNe, Int.reduceGE, Int.reduceGT, Nat.reduceBEq, Int.reduceToNat]
    refine loopI hE (fun i : Nat => ⟨[(0, .rs .path xs), (1, .fn 42 [.ptr 0 0]), (6, .rs .path xs), (7, .v (.int .i64 xs.length)), (8, .v (.int .i64 i))], [(0, .box [.v (.int .i64 a)])], 1, Try.f41.ntmps⟩) (fun i => i ≤ xs.length ∧ ∀ j, j < i → (srcP a) (xs.getD j Pz) = false) (fun i => xs.length - i) ⟨0, ⟨Nat.zero_le _, fun i hi => absurd hi (Nat.not_lt_zero _)⟩, SubS.weak ?_⟩ ?_
    · simp (config := { maxSteps := 2000000 }) only [go_sem, hG, hP, Nat.reduceEqDiff, ↓reduceIte, reduceCtorEq, Nat.reduceAdd, Nat.reduceSub, Nat.reduceMul, Nat.reduceLT, Nat.reduceLeDiff, Int.reduceAdd, Int.reduceSub, Int.reduceMul, Int.reduceLT, Int.reduceLE, Int.reduceEq, Int.reduceNeg, Int.reduceNe, Int.reduceGE, Int.reduceGT, Nat.reduceBEq, Int.reduceToNat]
      repeat' (first | with_reducible rfl | (refine And.intro ?_ ?_) | (refine congrArg (Value.int _) ?_; omega) | omega)
    · intro i ⟨hi, hpre⟩
      by_cases hlt : i < xs.length
      · have e0 : ((i : Int) < (xs.length : Int)) = True := eq_true (by omega)
        simp (config := { maxSteps := 2000000 }) only [go_sem, hG, hP, Nat.reduceEqDiff, ↓reduceIte, reduceCtorEq, Nat.reduceAdd, Nat.reduceSub, Nat.reduceMul, Nat.reduceLT, Nat.reduceLeDiff, Int.reduceAdd, Int.reduceSub, Int.reduceMul, Int.reduceLT, Int.reduceLE, Int.reduceEq, Int.reduceNeg, Int.reduceNe, Int.reduceGE, Int.reduceGT, Nat.reduceBEq, Int.reduceToNat,  spClo42_f, spClo42_t, spClo42_k, e0, ptrs_eq, takePs_eq, ptrs_nil, ptrs_o]
        (try simp (disch := omega) only [wrap_id])
        repeat (refine And.intro (by first | omega | (simp; done) | (simp; omega) | (unfold appRoom; omega)) ?_)
        refine ⟨fun hy => ⟨_, _, _, ?_, h⟩, fun hn => ⟨i + 1, ⟨⟨by omega, upto_succ hpre ?_⟩, by omega⟩, SubS.weak ?_⟩⟩
        · rw [fidx_hit hlt hpre hy]
          simp (config := { maxSteps := 2000000 }) only [go_sem, hG, hP, Nat.reduceEqDiff, ↓reduceIte, reduceCtorEq, Nat.reduceAdd, Nat.reduceSub, Nat.reduceMul, Nat.reduceLT, Nat.reduceLeDiff, Int.reduceAdd, Int.reduceSub, Int.reduceMul, Int.reduceLT, Int.reduceLE, Int.reduceEq, Int.reduceNeg, Int.reduceNe, Int.reduceGE, Int.reduceGT, Nat.reduceBEq, Int.reduceToNat]
        · exact hn
        · simp (config := { maxSteps := 2000000 }) only [go_sem, hG, hP, Nat.reduceEqDiff, ↓reduceIte, reduceCtorEq, Nat.reduceAdd, Nat.reduceSub, Nat.reduceMul, Nat.reduceLT, Nat.reduceLeDiff, Int.reduceAdd, Int.reduceSub, Int.reduceMul, Int.reduceLT, Int.reduceLE, Int.reduceEq, Int.reduceNeg, Int.reduceNe, Int.reduceGE, Int.reduceGT, Nat.reduceBEq, Int.reduceToNat]
          repeat' (first | with_reducible rfl | (refine And.intro ?_ ?_) | (refine congrArg (Value.int _) ?_; omega) | omega)
      · have e0 : ((i : Int) < (xs.length : Int)) = False := eq_false (by omega)
        obtain rfl : i = xs.length := by omega
        rw [fidx_none hpre] at h
        simp (config := { maxSteps := 2000000 }) only [go_sem, hG, hP, Nat.reduceEqDiff, ↓reduceIte, reduceCtorEq, Nat.reduceAdd, Nat.reduceSub, Nat.reduceMul, Nat.reduceLT, Nat.reduceLeDiff, Int.reduceAdd, Int.reduceSub, Int.reduceMul, Int.reduceLT, Int.reduceLE, Int.reduceEq, Int.reduceNeg, Int.reduceNe, Int.reduceGE, Int.reduceGT, Nat.reduceBEq, Int.reduceToNat,  e0]
        refine ⟨_, _, _, ?_, h⟩
        simp (config := { maxSteps := 2000000 }) only [go_sem, hG, hP, Nat.reduceEqDiff, ↓reduceIte, reduceCtorEq, Nat.reduceAdd, Nat.reduceSub, Nat.reduceMul, Nat.reduceLT, Nat.reduceLeDiff, Int.reduceAdd, Int.reduceSub, Int.reduceMul, Int.reduceLT, Int.reduceLE, Int.reduceEq, Int.reduceNeg, Int.reduceNe, Int.reduceGE, Int.reduceGT, Nat.reduceBEq, Int.reduceToNat]
  · exact h.elim
def spIdx50 : Spec := ⟨fun _ => takeF, fun args objs K => match args, objs with
  | [.rs .path xs, .fn 50 [.ptr 0 0, .ptr 1 0]], [.box [.v (.int .i64 a)], .box [.v (.int .i64 b)]] => (xs.length ≤ 1099511627776) ∧ K (.v (.int .i64 (fidx (endP a b) xs))) [(0, .box [.v (.int .i64 a)]), (1, .box [.v (.int .i64 b)])] 2
  | _, _ => False, false⟩
theorem spIdx50_t {L : Hp} {a : List AVal} : Spec.take spIdx50 L a = takeF a := id rfl
theorem spIdx50_k : Spec.keep spIdx50 = false := id rfl
theorem spIdx50_f {xs} {a} {b} {K : AVal → Hp → Nat → Prop} : Spec.f spIdx50 ([.rs .path xs, .fn 50 [.ptr 0 0, .ptr 1 0]]) ([.box [.v (.int .i64 a)], .box [.v (.int .i64 b)]]) K = ((xs.length ≤ 1099511627776) ∧ K (.v (.int .i64 (fidx (endP a b) xs))) [(0, .box [.v (.int .i64 a)]), (1, .box [.v (.int .i64 b)])] 2) := id rfl
theorem valid41_50 : Valid Try.prog 41 spIdx50 := by
  refine validI (Γ := lk [(50, spClo50)]) Try.func41 bod41 low41 res41 (good_of ⟨⟨cal50, valid50⟩, trivial⟩) ?_
  intro E args objs K h hE hG hP
  simp only [spIdx50] at h
  split at h
  · refine ⟨by simp [Try.ntmps41], ?_⟩
    rename_i xs a b
    obtain ⟨b1, h⟩ := h
    simp (config := { maxSteps := 2000000 }) only [go_sem, hG, hP, Nat.reduceEqDiff, ↓reduceIte, reduceCtorEq, Nat.reduceAdd, Nat.reduceSub, Nat.reduceMul, Nat.reduceLT, Nat.reduceLeDiff, Int.reduceAdd, Int.reduceSub, Int.reduceMul, Int.reduceLT, Int.reduceLE, Int.reduceEq, Int.reduceNeg, Int.reduceNe, Int.reduceGE, Int.reduceGT, Nat.reduceBEq, Int.reduceToNat]
    refine loopI hE (fun i : Nat => ⟨[(0, .rs .path xs), (1, .fn 50 [.ptr 0 0, .ptr 1 0]), (6, .rs .path xs), (7, .v (.int .i64 xs.length)), (8, .v (.int .i64 i))], [(0, .box [.v (.int .i64 a)]), (1, .box [.v (.int .i64 b)])], 2, Try.f41.ntmps⟩) (fun i => i ≤ xs.length ∧ ∀ j, j < i → (endP a b) (xs.getD j Pz) = false) (fun i => xs.length - i) ⟨0, ⟨Nat.zero_le _, fun i hi => absurd hi (Nat.not_lt_zero _)⟩, SubS.weak ?_⟩ ?_
    · simp (config := { maxSteps := 2000000 }) only [go_sem, hG, hP, Nat.reduceEqDiff, ↓reduceIte, reduceCtorEq, Nat.reduceAdd, Nat.reduceSub, Nat.reduceMul, Nat.reduceLT, Nat.reduceLeDiff, Int.reduceAdd, Int.reduceSub, Int.reduceMul, Int.reduceLT, Int.reduceLE, Int.reduceEq, Int.reduceNeg, Int.reduceNe, Int.reduceGE, Int.reduceGT, Nat.reduceBEq, Int.reduceToNat]
      repeat' (first | with_reducible rfl | (refine And.intro ?_ ?_) | (refine congrArg (Value.int _) ?_; omega) | omega)
    · intro i ⟨hi, hpre⟩
      by_cases hlt : i < xs.length
      · have e0 : ((i : Int) < (xs.length : Int)) = True := eq_true (by omega)
        simp (config := { maxSteps := 2000000 }) only [go_sem, hG, hP, Nat.reduceEqDiff, ↓reduceIte, reduceCtorEq, Nat.reduceAdd, Nat.reduceSub, Nat.reduceMul, Nat.reduceLT, Nat.reduceLeDiff, Int.reduceAdd, Int.reduceSub, Int.reduceMul, Int.reduceLT, Int.reduceLE, Int.reduceEq, Int.reduceNeg, Int.reduceNe, Int.reduceGE, Int.reduceGT, Nat.reduceBEq, Int.reduceToNat,  spClo50_f, spClo50_t, spClo50_k, e0, ptrs_eq, takePs_eq, ptrs_nil, ptrs_o]
        (try simp (disch := omega) only [wrap_id])
        repeat (refine And.intro (by first | omega | (simp; done) | (simp; omega) | (unfold appRoom; omega)) ?_)
        refine ⟨fun hy => ⟨_, _, _, ?_, h⟩, fun hn => ⟨i + 1, ⟨⟨by omega, upto_succ hpre ?_⟩, by omega⟩, SubS.weak ?_⟩⟩
        · rw [fidx_hit hlt hpre hy]
          simp (config := { maxSteps := 2000000 }) only [go_sem, hG, hP, Nat.reduceEqDiff, ↓reduceIte, reduceCtorEq, Nat.reduceAdd, Nat.reduceSub, Nat.reduceMul, Nat.reduceLT, Nat.reduceLeDiff, Int.reduceAdd, Int.reduceSub, Int.reduceMul, Int.reduceLT, Int.reduceLE, Int.reduceEq, Int.reduceNeg, Int.reduceNe, Int.reduceGE, Int.reduceGT, Nat.reduceBEq, Int.reduceToNat]
        · exact hn
        · simp (config := { maxSteps := 2000000 }) only [go_sem, hG, hP, Nat.reduceEqDiff, ↓reduceIte, reduceCtorEq, Nat.reduceAdd, Nat.reduceSub, Nat.reduceMul, Nat.reduceLT, Nat.reduceLeDiff, Int.reduceAdd, Int.reduceSub, Int.reduceMul, Int.reduceLT, Int.reduceLE, Int.reduceEq, Int.reduceNeg, Int.reduceNe, Int.reduceGE, Int.reduceGT, Nat.reduceBEq, Int.reduceToNat]
          repeat' (first | with_reducible rfl | (refine And.intro ?_ ?_) | (refine congrArg (Value.int _) ?_; omega) | omega)
      · have e0 : ((i : Int) < (xs.length : Int)) = False := eq_false (by omega)
        obtain rfl : i = xs.length := by omega
        rw [fidx_none hpre] at h
        simp (config := { maxSteps := 2000000 }) only [go_sem, hG, hP, Nat.reduceEqDiff, ↓reduceIte, reduceCtorEq, Nat.reduceAdd, Nat.reduceSub, Nat.reduceMul, Nat.reduceLT, Nat.reduceLeDiff, Int.reduceAdd, Int.reduceSub, Int.reduceMul, Int.reduceLT, Int.reduceLE, Int.reduceEq, Int.reduceNeg, Int.reduceNe, Int.reduceGE, Int.reduceGT, Nat.reduceBEq, Int.reduceToNat,  e0]
        refine ⟨_, _, _, ?_, h⟩
        simp (config := { maxSteps := 2000000 }) only [go_sem, hG, hP, Nat.reduceEqDiff, ↓reduceIte, reduceCtorEq, Nat.reduceAdd, Nat.reduceSub, Nat.reduceMul, Nat.reduceLT, Nat.reduceLeDiff, Int.reduceAdd, Int.reduceSub, Int.reduceMul, Int.reduceLT, Int.reduceLE, Int.reduceEq, Int.reduceNeg, Int.reduceNe, Int.reduceGE, Int.reduceGT, Nat.reduceBEq, Int.reduceToNat]
  · exact h.elim
def spIdx59 : Spec := ⟨fun _ => takeF, fun args objs K => match args, objs with
  | [.rs .path xs, .fn 59 [.ptr 0 0, .ptr 1 0, .ptr 2 0, .ptr 3 0]], [.box [s, .v (.int .i64 p), m, q], .box [.v (.bool out)], .box [.v (.int .i64 side)], .box [.v (.int .i64 mid)]] => (xs.length ≤ 1099511627776 ∧ 1 ≤ p ∧ allSmall xs) ∧ K (.v (.int .i64 (fidx (atP p out side mid) xs))) [(0, .box [.junk, .v (.int .i64 p), .junk, .junk]), (1, .box [.v (.bool out)]), (2, .box [.v (.int .i64 side)]), (3, .box [.v (.int .i64 mid)])] 4
  | _, _ => False, false⟩
theorem spIdx59_t {L : Hp} {a : List AVal} : Spec.take spIdx59 L a = takeF a := id rfl
theorem spIdx59_k : Spec.keep spIdx59 = false := id rfl
theorem spIdx59_f {xs} {s} {p} {m} {q} {out} {side} {mid} {K : AVal → Hp → Nat → Prop} : Spec.f spIdx59 ([.rs .path xs, .fn 59 [.ptr 0 0, .ptr 1 0, .ptr 2 0, .ptr 3 0]]) ([.box [s, .v (.int .i64 p), m, q], .box [.v (.bool out)], .box [.v (.int .i64 side)], .box [.v (.int .i64 mid)]]) K = ((xs.length ≤ 1099511627776 ∧ 1 ≤ p ∧ allSmall xs) ∧ K (.v (.int .i64 (fidx (atP p out side mid) xs))) [(0, .box [.junk, .v (.int .i64 p), .junk, .junk]), (1, .box [.v (.bool out)]), (2, .box [.v (.int .i64 side)]), (3, .box [.v (.int .i64 mid)])] 4) := id rfl
theorem valid41_59 : Valid Try.prog 41 spIdx59 := by
  refine validI (Γ := lk [(59, spClo59)]) Try.func41 bod41 low41 res41 (good_of ⟨⟨cal59, valid59⟩, trivial⟩) ?_
  intro E args objs K h hE hG hP
  simp only [spIdx59] at h
  split at h
  · refine ⟨by simp [Try.ntmps41], ?_⟩
    rename_i xs s p m q out side mid
    obtain ⟨⟨b1, hp, hsm⟩, h⟩ := h
    simp (config := { maxSteps := 2000000 }) only [go_sem, hG, hP, Nat.reduceEqDiff, ↓reduceIte, reduceCtorEq, Nat.reduceAdd, Nat.reduceSub, Nat.reduceMul, Nat.reduceLT, Nat.reduceLeDiff, Int.reduceAdd, Int.reduceSub, Int.reduceMul, Int.reduceLT, Int.reduceLE, Int.reduceEq, Int.reduceNeg, Int.reduceNe, Int.reduceGE, Int.reduceGT, Nat.reduceBEq, Int.reduceToNat]
    refine loopI hE (fun i : Nat => ⟨[(0, .rs .path xs), (1, .fn 59 [.ptr 0 0, .ptr 1 0, .ptr 2 0, .ptr 3 0]), (6, .rs .path xs), (7, .v (.int .i64 xs.length)), (8, .v (.int .i64 i))], [(0, .box [.junk, .v (.int .i64 p), .junk, .junk]), (1, .box [.v (.bool out)]), (2, .box [.v (.int .i64 side)]), (3, .box [.v (.int .i64 mid)])], 4, Try.f41.ntmps⟩) (fun i => i ≤ xs.length ∧ ∀ j, j < i → (atP p out side mid) (xs.getD j Pz) = false) (fun i => xs.length - i) ⟨0, ⟨Nat.zero_le _, fun i hi => absurd hi (Nat.not_lt_zero _)⟩, SubS.weak ?_⟩ ?_
    · simp (config := { maxSteps := 2000000 }) only [go_sem, hG, hP, Nat.reduceEqDiff, ↓reduceIte, reduceCtorEq, Nat.reduceAdd, Nat.reduceSub, Nat.reduceMul, Nat.reduceLT, Nat.reduceLeDiff, Int.reduceAdd, Int.reduceSub, Int.reduceMul, Int.reduceLT, Int.reduceLE, Int.reduceEq, Int.reduceNeg, Int.reduceNe, Int.reduceGE, Int.reduceGT, Nat.reduceBEq, Int.reduceToNat]
      repeat' (first | with_reducible rfl | (refine And.intro ?_ ?_) | (refine congrArg (Value.int _) ?_; omega) | omega)
    · intro i ⟨hi, hpre⟩
      by_cases hlt : i < xs.length
      · have e0 : ((i : Int) < (xs.length : Int)) = True := eq_true (by omega)
        have hs := hsm i hlt
        generalize hxx : xs.getD i Pz = x at *
        have hs' : smallP ⟨x.src, x.dst, x.mid⟩ := hs
        simp (config := { maxSteps := 2000000 }) only [go_sem, hG, hP, Nat.reduceEqDiff, ↓reduceIte, reduceCtorEq, Nat.reduceAdd, Nat.reduceSub, Nat.reduceMul, Nat.reduceLT, Nat.reduceLeDiff, Int.reduceAdd, Int.reduceSub, Int.reduceMul, Int.reduceLT, Int.reduceLE, Int.reduceEq, Int.reduceNeg, Int.reduceNe, Int.reduceGE, Int.reduceGT, Nat.reduceBEq, Int.reduceToNat,  spClo59_f, spClo59_t, spClo59_k, hxx, e0, ptrs_eq, takePs_eq, ptrs_nil, ptrs_o]
        (try simp (disch := omega) only [wrap_id])
        refine ⟨by omega, ⟨hp, hs'⟩, ?_⟩
        refine ⟨fun hy => ⟨_, _, _, ?_, h⟩, fun hn => ⟨i + 1, ⟨⟨by omega, upto_succ hpre ?_⟩, by omega⟩, SubS.weak ?_⟩⟩
        · rw [fidx_hit hlt hpre (by rw [hxx]; exact hy)]
          simp (config := { maxSteps := 2000000 }) only [go_sem, hG, hP, Nat.reduceEqDiff, ↓reduceIte, reduceCtorEq, Nat.reduceAdd, Nat.reduceSub, Nat.reduceMul, Nat.reduceLT, Nat.reduceLeDiff, Int.reduceAdd, Int.reduceSub, Int.reduceMul, Int.reduceLT, Int.reduceLE, Int.reduceEq, Int.reduceNeg, Int.reduceNe, Int.reduceGE, Int.reduceGT, Nat.reduceBEq, Int.reduceToNat]
        · rw [hxx]; exact hn
        · simp (config := { maxSteps := 2000000 }) only [go_sem, hG, hP, Nat.reduceEqDiff, ↓reduceIte, reduceCtorEq, Nat.reduceAdd, Nat.reduceSub, Nat.reduceMul, Nat.reduceLT, Nat.reduceLeDiff, Int.reduceAdd, Int.reduceSub, Int.reduceMul, Int.reduceLT, Int.reduceLE, Int.reduceEq, Int.reduceNeg, Int.reduceNe, Int.reduceGE, Int.reduceGT, Nat.reduceBEq, Int.reduceToNat]
          repeat' (first | with_reducible rfl | (refine And.intro ?_ ?_) | (refine congrArg (Value.int _) ?_; omega) | omega)
      · have e0 : ((i : Int) < (xs.length : Int)) = False := eq_false (by omega)
        obtain rfl : i = xs.length := by omega
        rw [fidx_none hpre] at h
        simp (config := { maxSteps := 2000000 }) only [go_sem, hG, hP, Nat.reduceEqDiff, ↓reduceIte, reduceCtorEq, Nat.reduceAdd, Nat.reduceSub, Nat.reduceMul, Nat.reduceLT, Nat.reduceLeDiff, Int.reduceAdd, Int.reduceSub, Int.reduceMul, Int.reduceLT, Int.reduceLE, Int.reduceEq, Int.reduceNeg, Int.reduceNe, Int.reduceGE, Int.reduceGT, Nat.reduceBEq, Int.reduceToNat,  e0]
        refine ⟨_, _, _, ?_, h⟩
        simp (config := { maxSteps := 2000000 }) only [go_sem, hG, hP, Nat.reduceEqDiff, ↓reduceIte, reduceCtorEq, Nat.reduceAdd, Nat.reduceSub, Nat.reduceMul, Nat.reduceLT, Nat.reduceLeDiff, Int.reduceAdd, Int.reduceSub, Int.reduceMul, Int.reduceLT, Int.reduceLE, Int.reduceEq, Int.reduceNeg, Int.reduceNe, Int.reduceGE, Int.reduceGT, Nat.reduceBEq, Int.reduceToNat]
  · exact h.elim
def spHas : Spec := ⟨fun _ => takeF, fun args objs K => match args, objs with
  | [.rs .path xs, .fn 50 [.ptr 0 0, .ptr 1 0]], [.box [.v (.int .i64 a)], .box [.v (.int .i64 b)]] => xs.length ≤ 1099511627776 ∧ K (.v (.bool (decide (0 ≤ fidx (endP a b) xs)))) [(0, .box [.v (.int .i64 a)]), (1, .box [.v (.int .i64 b)])] 2
  | _, _ => False, false⟩
theorem spHas_t {L : Hp} {a : List AVal} : Spec.take spHas L a = takeF a := id rfl
theorem spHas_k : Spec.keep spHas = false := id rfl
theorem spHas_f {xs} {a} {b} {K : AVal → Hp → Nat → Prop} : Spec.f spHas ([.rs .path xs, .fn 50 [.ptr 0 0, .ptr 1 0]]) ([.box [.v (.int .i64 a)], .box [.v (.int .i64 b)]]) K = (xs.length ≤ 1099511627776 ∧ K (.v (.bool (decide (0 ≤ fidx (endP a b) xs)))) [(0, .box [.v (.int .i64 a)]), (1, .box [.v (.int .i64 b)])] 2) := id rfl
theorem valid49 : Valid Try.prog 49 spHas := by
  refine validI (Γ := lk [(41, spIdx50)]) Try.func49 bod49 low49 res49 (good_of ⟨⟨cal41, valid41_50⟩, trivial⟩) ?_
  intro E args objs K h hE hG hP
  simp only [spHas] at h
  split at h
  · refine ⟨by simp [Try.ntmps49], ?_⟩
    rename_i xs a b
    obtain ⟨b1, h⟩ := h
    simp (config := { maxSteps := 2000000 }) only [go_sem, hG, hP, Nat.reduceEqDiff, ↓reduceIte, reduceCtorEq, Nat.reduceAdd, Nat.reduceSub, Nat.reduceMul, Nat.reduceLT, Nat.reduceLeDiff, Int.reduceAdd, Int.reduceSub, Int.reduceMul, Int.reduceLT, Int.reduceLE, Int.reduceEq, Int.reduceNeg, Int.reduceNe, Int.reduceGE, Int.reduceGT, Nat.reduceBEq, Int.reduceToNat,  spIdx50_f, spIdx50_t, spIdx50_k, takeF_eq, ptrs_eq, ptrs_nil]
    repeat (refine And.intro (by first | omega | (simp; done) | (simp; omega) | (unfold appRoom; omega)) ?_)
    refine ⟨_, _, _, ?_, h⟩
    simp (config := { maxSteps := 2000000 }) only [go_sem, hG, hP, Nat.reduceEqDiff, ↓reduceIte, reduceCtorEq, Nat.reduceAdd, Nat.reduceSub, Nat.reduceMul, Nat.reduceLT, Nat.reduceLeDiff, Int.reduceAdd, Int.reduceSub, Int.reduceMul, Int.reduceLT, Int.reduceLE, Int.reduceEq, Int.reduceNeg, Int.reduceNe, Int.reduceGE, Int.reduceGT, Nat.reduceBEq, Int.reduceToNat]
  · exact h.elim
def spAt (out : Bool) : Spec := ⟨fun _ _ => [], fun args objs K => match args, objs with
  | [.agg [.v (.int .i64 s), .v (.int .i64 p), .v (.int .i64 m), .rs .path q], .v (.int .i64 side), .v (.int .i64 mid)], [] =>
      (q.length ≤ 1099511627776 ∧ 1 ≤ p ∧ allSmall q) ∧ K (.v (.int .i64 (fidx (atP p out side mid) q))) [] 0
  | _, _ => False, false⟩
theorem atS_t {out : Bool} {L : Hp} {a : List AVal} : Spec.take (spAt out) L a = [] := id rfl
theorem atS_k {out : Bool} : Spec.keep (spAt out) = false := id rfl
theorem atS_f {out : Bool} {s p m side mid : Int} {q : List Pth} {K : AVal → Hp → Nat → Prop} : Spec.f (spAt out) [.agg [.v (.int .i64 s), .v (.int .i64 p), .v (.int .i64 m), .rs .path q], .v (.int .i64 side), .v (.int .i64 mid)] [] K = ((q.length ≤ 1099511627776 ∧ 1 ≤ p ∧ allSmall q) ∧ K (.v (.int .i64 (fidx (atP p out side mid) q))) [] 0) := id rfl
theorem valid44 : Valid Try.prog 44 (spAt false) := by
  refine validI (Γ := lk []) Try.func44 bod44 low44 res44 (good_of trivial) ?_
  intro E args objs K h hE hG hP
  simp only [spAt] at h
  split at h
  · refine ⟨by simp [Try.ntmps44], ?_⟩
    rename_i s p m q side mid
    obtain ⟨⟨b1, hp, hsm⟩, h⟩ := h
    have pz : (p = 0) = False := eq_false (by omega)
    simp (config := { maxSteps := 2000000 }) only [go_sem, hG, hP, Nat.reduceEqDiff, ↓reduceIte, reduceCtorEq, Nat.reduceAdd, Nat.reduceSub, Nat.reduceMul, Nat.reduceLT, Nat.reduceLeDiff, Int.reduceAdd, Int.reduceSub, Int.reduceMul, Int.reduceLT, Int.reduceLE, Int.reduceEq, Int.reduceNeg, Int.reduceNe, Int.reduceGE, Int.reduceGT, Nat.reduceBEq, Int.reduceToNat]
    refine loopI hE (fun i : Nat => ⟨[(1, .v (.int .i64 side)), (2, .v (.int .i64 mid)), (3, .ptr 0 0), (7, .v (.int .i64 i))], [(0, .box [.v (.int .i64 s), .v (.int .i64 p), .v (.int .i64 m), .rs .path q])], 1, Try.f44.ntmps⟩) (fun i => i ≤ q.length ∧ ∀ j, j < i → atP p false side mid (q.getD j Pz) = false) (fun i => q.length - i) ⟨0, ⟨Nat.zero_le _, fun i hi => absurd hi (Nat.not_lt_zero _)⟩, SubS.weak ?_⟩ ?_
    · simp (config := { maxSteps := 2000000 }) only [go_sem, hG, hP, Nat.reduceEqDiff, ↓reduceIte, reduceCtorEq, Nat.reduceAdd, Nat.reduceSub, Nat.reduceMul, Nat.reduceLT, Nat.reduceLeDiff, Int.reduceAdd, Int.reduceSub, Int.reduceMul, Int.reduceLT, Int.reduceLE, Int.reduceEq, Int.reduceNeg, Int.reduceNe, Int.reduceGE, Int.reduceGT, Nat.reduceBEq, Int.reduceToNat]
      repeat' (first | with_reducible rfl | (refine And.intro ?_ ?_) | (refine congrArg (Value.int _) ?_; omega) | omega)
    · intro i ⟨hi, hpre⟩
      by_cases hlt : i < q.length
      · have e0 : ((i : Int) < (q.length : Int)) = True := eq_true (by omega)
        obtain ⟨⟨h1, h2⟩, h3, h4⟩ := hsm i hlt
        have hit := @fidx_hit (atP p false side mid) q i hlt hpre
        generalize hxx : q.getD i Pz = x at *
        have w1 := wq h1 (by omega) hp
        have w2 := wq h3 (by omega) hp
        simp (config := { maxSteps := 2000000 }) only [go_sem, hG, hP, Nat.reduceEqDiff, ↓reduceIte, reduceCtorEq, Nat.reduceAdd, Nat.reduceSub, Nat.reduceMul, Nat.reduceLT, Nat.reduceLeDiff, Int.reduceAdd, Int.reduceSub, Int.reduceMul, Int.reduceLT, Int.reduceLE, Int.reduceEq, Int.reduceNeg, Int.reduceNe, Int.reduceGE, Int.reduceGT, Nat.reduceBEq, Int.reduceToNat,  hxx, e0, w1, w2, pz]
        (try simp (disch := omega) only [wrap_id])
        repeat (refine And.intro (by first | omega | (simp; done) | (simp; omega) | (unfold appRoom; omega)) ?_)
        repeat' (first | (refine And.intro ?_ ?_) | (with_reducible intro _))
        all_goals first
          | omega
          | (rw [hit (by simp only [atP_t, atP_f]; exact decide_eq_true (by omega))] at h; refine ⟨_, _, _, ?_, h⟩; simp (config := { maxSteps := 2000000 }) only [go_sem, hG, hP, Nat.reduceEqDiff, ↓reduceIte, reduceCtorEq, Nat.reduceAdd, Nat.reduceSub, Nat.reduceMul, Nat.reduceLT, Nat.reduceLeDiff, Int.reduceAdd, Int.reduceSub, Int.reduceMul, Int.reduceLT, Int.reduceLE, Int.reduceEq, Int.reduceNeg, Int.reduceNe, Int.reduceGE, Int.reduceGT, Nat.reduceBEq, Int.reduceToNat]; done)
          | (refine ⟨i + 1, ⟨⟨by omega, upto_succ hpre (by rw [hxx]; simp only [atP_t, atP_f]; exact decide_eq_false (by omega))⟩, by omega⟩, SubS.weak ?_⟩; simp (config := { maxSteps := 2000000 }) only [go_sem, hG, hP, Nat.reduceEqDiff, ↓reduceIte, reduceCtorEq, Nat.reduceAdd, Nat.reduceSub, Nat.reduceMul, Nat.reduceLT, Nat.reduceLeDiff, Int.reduceAdd, Int.reduceSub, Int.reduceMul, Int.reduceLT, Int.reduceLE, Int.reduceEq, Int.reduceNeg, Int.reduceNe, Int.reduceGE, Int.reduceGT, Nat.reduceBEq, Int.reduceToNat]; repeat' (first | with_reducible rfl | (refine And.intro ?_ ?_) | (refine congrArg (Value.int _) ?_; omega) | omega))
      · have e0 : ((i : Int) < (q.length : Int)) = False := eq_false (by omega)
        obtain rfl : i = q.length := by omega
        rw [fidx_none hpre] at h
        simp (config := { maxSteps := 2000000 }) only [go_sem, hG, hP, Nat.reduceEqDiff, ↓reduceIte, reduceCtorEq, Nat.reduceAdd, Nat.reduceSub, Nat.reduceMul, Nat.reduceLT, Nat.reduceLeDiff, Int.reduceAdd, Int.reduceSub, Int.reduceMul, Int.reduceLT, Int.reduceLE, Int.reduceEq, Int.reduceNeg, Int.reduceNe, Int.reduceGE, Int.reduceGT, Nat.reduceBEq, Int.reduceToNat,  e0]
        refine ⟨_, _, _, ?_, h⟩
        simp (config := { maxSteps := 2000000 }) only [go_sem, hG, hP, Nat.reduceEqDiff, ↓reduceIte, reduceCtorEq, Nat.reduceAdd, Nat.reduceSub, Nat.reduceMul, Nat.reduceLT, Nat.reduceLeDiff, Int.reduceAdd, Int.reduceSub, Int.reduceMul, Int.reduceLT, Int.reduceLE, Int.reduceEq, Int.reduceNeg, Int.reduceNe, Int.reduceGE, Int.reduceGT, Nat.reduceBEq, Int.reduceToNat]
  · exact h.elim
theorem valid45 : Valid Try.prog 45 (spAt true) := by
  refine validI (Γ := lk []) Try.func45 bod45 low45 res45 (good_of trivial) ?_
  intro E args objs K h hE hG hP
  simp only [spAt] at h
  split at h
  · refine ⟨by simp [Try.ntmps45], ?_⟩
    rename_i s p m q side mid
    obtain ⟨⟨b1, hp, hsm⟩, h⟩ := h
    have pz : (p = 0) = False := eq_false (by omega)
    simp (config := { maxSteps := 2000000 }) only [go_sem, hG, hP, Nat.reduceEqDiff, ↓reduceIte, reduceCtorEq, Nat.reduceAdd, Nat.reduceSub, Nat.reduceMul, Nat.reduceLT, Nat.reduceLeDiff, Int.reduceAdd, Int.reduceSub, Int.reduceMul, Int.reduceLT, Int.reduceLE, Int.reduceEq, Int.reduceNeg, Int.reduceNe, Int.reduceGE, Int.reduceGT, Nat.reduceBEq, Int.reduceToNat]
    refine loopI hE (fun i : Nat => ⟨[(1, .v (.int .i64 side)), (2, .v (.int .i64 mid)), (3, .ptr 0 0), (7, .v (.int .i64 i))], [(0, .box [.v (.int .i64 s), .v (.int .i64 p), .v (.int .i64 m), .rs .path q])], 1, Try.f45.ntmps⟩) (fun i => i ≤ q.length ∧ ∀ j, j < i → atP p true side mid (q.getD j Pz) = false) (fun i => q.length - i) ⟨0, ⟨Nat.zero_le _, fun i hi => absurd hi (Nat.not_lt_zero _)⟩, SubS.weak ?_⟩ ?_
    · simp (config := { maxSteps := 2000000 }) only [go_sem, hG, hP, Nat.reduceEqDiff, ↓reduceIte, reduceCtorEq, Nat.reduceAdd, Nat.reduceSub, Nat.reduceMul, Nat.reduceLT, Nat.reduceLeDiff, Int.reduceAdd, Int.reduceSub, Int.reduceMul, Int.reduceLT, Int.reduceLE, Int.reduceEq, Int.reduceNeg, Int.reduceNe, Int.reduceGE, Int.reduceGT, Nat.reduceBEq, Int.reduceToNat]
      repeat' (first | with_reducible rfl | (refine And.intro ?_ ?_) | (refine congrArg (Value.int _) ?_; omega) | omega)
    · intro i ⟨hi, hpre⟩
      by_cases hlt : i < q.length
      · have e0 : ((i : Int) < (q.length : Int)) = True := eq_true (by omega)
        obtain ⟨⟨h1, h2⟩, h3, h4⟩ := hsm i hlt
        have hit := @fidx_hit (atP p true side mid) q i hlt hpre
        generalize hxx : q.getD i Pz = x at *
        have w1 := wq h1 (by omega) hp
        have w2 := wq h3 (by omega) hp
        simp (config := { maxSteps := 2000000 }) only [go_sem, hG, hP, Nat.reduceEqDiff, ↓reduceIte, reduceCtorEq, Nat.reduceAdd, Nat.reduceSub, Nat.reduceMul, Nat.reduceLT, Nat.reduceLeDiff, Int.reduceAdd, Int.reduceSub, Int.reduceMul, Int.reduceLT, Int.reduceLE, Int.reduceEq, Int.reduceNeg, Int.reduceNe, Int.reduceGE, Int.reduceGT, Nat.reduceBEq, Int.reduceToNat,  hxx, e0, w1, w2, pz]
        (try simp (disch := omega) only [wrap_id])
        repeat (refine And.intro (by first | omega | (simp; done) | (simp; omega) | (unfold appRoom; omega)) ?_)
        repeat' (first | (refine And.intro ?_ ?_) | (with_reducible intro _))
        all_goals first
          | omega
          | (rw [hit (by simp only [atP_t, atP_f]; exact decide_eq_true (by omega))] at h; refine ⟨_, _, _, ?_, h⟩; simp (config := { maxSteps := 2000000 }) only [go_sem, hG, hP, Nat.reduceEqDiff, ↓reduceIte, reduceCtorEq, Nat.reduceAdd, Nat.reduceSub, Nat.reduceMul, Nat.reduceLT, Nat.reduceLeDiff, Int.reduceAdd, Int.reduceSub, Int.reduceMul, Int.reduceLT, Int.reduceLE, Int.reduceEq, Int.reduceNeg, Int.reduceNe, Int.reduceGE, Int.reduceGT, Nat.reduceBEq, Int.reduceToNat]; done)
          | (refine ⟨i + 1, ⟨⟨by omega, upto_succ hpre (by rw [hxx]; simp only [atP_t, atP_f]; exact decide_eq_false (by omega))⟩, by omega⟩, SubS.weak ?_⟩; simp (config := { maxSteps := 2000000 }) only [go_sem, hG, hP, Nat.reduceEqDiff, ↓reduceIte, reduceCtorEq, Nat.reduceAdd, Nat.reduceSub, Nat.reduceMul, Nat.reduceLT, Nat.reduceLeDiff, Int.reduceAdd, Int.reduceSub, Int.reduceMul, Int.reduceLT, Int.reduceLE, Int.reduceEq, Int.reduceNeg, Int.reduceNe, Int.reduceGE, Int.reduceGT, Nat.reduceBEq, Int.reduceToNat]; repeat' (first | with_reducible rfl | (refine And.intro ?_ ?_) | (refine congrArg (Value.int _) ?_; omega) | omega))
      · have e0 : ((i : Int) < (q.length : Int)) = False := eq_false (by omega)
        obtain rfl : i = q.length := by omega
        rw [fidx_none hpre] at h
        simp (config := { maxSteps := 2000000 }) only [go_sem, hG, hP, Nat.reduceEqDiff, ↓reduceIte, reduceCtorEq, Nat.reduceAdd, Nat.reduceSub, Nat.reduceMul, Nat.reduceLT, Nat.reduceLeDiff, Int.reduceAdd, Int.reduceSub, Int.reduceMul, Int.reduceLT, Int.reduceLE, Int.reduceEq, Int.reduceNeg, Int.reduceNe, Int.reduceGE, Int.reduceGT, Nat.reduceBEq, Int.reduceToNat,  e0]
        refine ⟨_, _, _, ?_, h⟩
        simp (config := { maxSteps := 2000000 }) only [go_sem, hG, hP, Nat.reduceEqDiff, ↓reduceIte, reduceCtorEq, Nat.reduceAdd, Nat.reduceSub, Nat.reduceMul, Nat.reduceLT, Nat.reduceLeDiff, Int.reduceAdd, Int.reduceSub, Int.reduceMul, Int.reduceLT, Int.reduceLE, Int.reduceEq, Int.reduceNeg, Int.reduceNe, Int.reduceGE, Int.reduceGT, Nat.reduceBEq, Int.reduceToNat]
  · exact h.elim
def spAtI : Spec := ⟨fun _ _ => [], fun args objs K => match args, objs with
  | [.agg [.v (.int .i64 s), .v (.int .i64 p), .v (.int .i64 m), .rs .path q], .v (.bool out), .v (.int .i64 side), .v (.int .i64 mid)], [] =>
      (q.length ≤ 1099511627776 ∧ 1 ≤ p ∧ allSmall q) ∧ K (.v (.int .i64 (fidx (atP p out side mid) q))) [] 0
  | _, _ => False, false⟩
theorem spAtI_t {L : Hp} {a : List AVal} : Spec.take spAtI L a = [] := id rfl
theorem spAtI_k : Spec.keep spAtI = false := id rfl
theorem spAtI_f {s} {p} {m} {q} {out} {side} {mid} {K : AVal → Hp → Nat → Prop} : Spec.f spAtI ([.agg [.v (.int .i64 s), .v (.int .i64 p), .v (.int .i64 m), .rs .path q], .v (.bool out), .v (.int .i64 side), .v (.int .i64 mid)]) ([]) K = ((q.length ≤ 1099511627776 ∧ 1 ≤ p ∧ allSmall q) ∧ K (.v (.int .i64 (fidx (atP p out side mid) q))) [] 0) := id rfl
theorem valid52 : Valid Try.prog 52 spAtI := by
  refine validI (Γ := lk [(41, spIdx59)]) Try.func52 bod52 low52 res52 (good_of ⟨⟨cal41, valid41_59⟩, trivial⟩) ?_
  intro E args objs K h hE hG hP
  simp only [spAtI] at h
  split at h
  · refine ⟨by simp [Try.ntmps52], ?_⟩
    rename_i s p m q out side mid
    obtain ⟨⟨b1, hp, hsm⟩, h⟩ := h
    simp (config := { maxSteps := 2000000 }) only [go_sem, hG, hP, Nat.reduceEqDiff, ↓reduceIte, reduceCtorEq, Nat.reduceAdd, Nat.reduceSub, Nat.reduceMul, Nat.reduceLT, Nat.reduceLeDiff, Int.reduceAdd, Int.reduceSub, Int.reduceMul, Int.reduceLT, Int.reduceLE, Int.reduceEq, Int.reduceNeg, Int.reduceNe, Int.reduceGE, Int.reduceGT, Nat.reduceBEq, Int.reduceToNat,  spIdx59_f, spIdx59_t, spIdx59_k, takeF_eq, ptrs_eq, ptrs_nil]
    refine ⟨⟨b1, hp, hsm⟩, ?_⟩
    refine ⟨_, _, _, ?_, h⟩
    simp (config := { maxSteps := 2000000 }) only [go_sem, hG, hP, Nat.reduceEqDiff, ↓reduceIte, reduceCtorEq, Nat.reduceAdd, Nat.reduceSub, Nat.reduceMul, Nat.reduceLT, Nat.reduceLeDiff, Int.reduceAdd, Int.reduceSub, Int.reduceMul, Int.reduceLT, Int.reduceLE, Int.reduceEq, Int.reduceNeg, Int.reduceNe, Int.reduceGE, Int.reduceGT, Nat.reduceBEq, Int.reduceToNat]
  · exact h.elim
end Go.Proofs.YtgmcijagaielaaaE

/-! The code of a function, in the engine's words. -/
namespace Go.Proofs.YtgmcijagaielaaaE
open Go Go.RowKit
@[reducible] def ic3 : IC := (.seq (.ops [⟨some 1, .box (.tmp 0), none⟩, ⟨some 2, .mov (.const (.bool false)), none⟩]) (.seq (.ops [⟨some 3, .mov (.const (.int .i64 1048576)), none⟩]) (.seq (.ops [⟨some 7, .load 4 true (.tmp 1), none⟩, ⟨some 8, .mov (.tmp 3), none⟩, ⟨some 9, .call 9 [(.tmp 7), (.tmp 8)], none⟩, ⟨some 3, .mov (.tmp 9), none⟩]) (.seq (.seq (.ops [⟨some 10, .mov (.tmp 3), none⟩, ⟨some 11, .bin .lss (.tmp 10) (.const (.int .i64 0)), none⟩]) (.cond (.tmp 11) (.seq (.ops [⟨some 2, .mov (.const (.bool true)), none⟩]) .ret) .skip)) (.seq (.ops [⟨some 12, .load 4 true (.tmp 1), none⟩, ⟨some 13, .call 11 [(.tmp 12)], none⟩, ⟨some 14, .call 10 [(.tmp 13)], none⟩, ⟨some 4, .mov (.tmp 14), none⟩]) (.seq (.ops [⟨some 15, .load 4 true (.tmp 1), none⟩, ⟨some 16, .call 11 [(.tmp 15)], none⟩, ⟨some 5, .new [(.int .i64 0), (.int .i64 0), (.int .i64 0), (.slice none 0 0)], none⟩, ⟨none, .store 4 (.tmp 5) (.tmp 16), none⟩]) (.seq (.ops [⟨some 17, .load 4 true (.tmp 5), none⟩, ⟨some 18, .call 12 [(.tmp 17)], none⟩, ⟨some 6, .mov (.tmp 18), none⟩]) (.seq (.seq (.ops [⟨some 19, .mov (.tmp 6), none⟩, ⟨some 20, .mov (.tmp 4), none⟩, ⟨some 21, .beq true (.tmp 19) (.tmp 20), none⟩]) (.cond (.tmp 21) (.seq (.ops [⟨some 2, .mov (.const (.bool false)), none⟩]) .ret) .skip)) (.seq (.seq (.draw [⟨some 22, .load 4 true (.tmp 5), none⟩, ⟨some 23, .load 4 true (.tmp 1), none⟩, ⟨some 24, .call 11 [(.tmp 23)], none⟩, ⟨some 25, .call 13 [(.tmp 22), (.tmp 24)], none⟩, ⟨some 26, .una .not (.tmp 25), none⟩] (.held ⟨some 22, .load 4 true (.tmp 5), none⟩ (.held ⟨some 23, .load 4 true (.tmp 1), none⟩ (.alt ⟨some 24, .call 11 [(.tmp 23)], none⟩ (.alt ⟨some 25, .call 13 [(.tmp 22), (.tmp 24)], none⟩ (.held ⟨some 26, .una .not (.tmp 25), none⟩ .done) .stop) .stop)))) (.cond (.tmp 26) (.seq (.ops [⟨some 2, .mov (.const (.bool false)), none⟩]) .ret) .skip)) (.seq (.ops [⟨some 2, .mov (.const (.bool true)), none⟩]) .ret))))))))))
@[reducible] def rv3 : List RV := [.tmp 2]
theorem low3 : lowC Try.prog tau Try.f3.ntmps (Try.f3.body.getD .skip) = some (erase ic3) := by kernel_rfl
theorem res3 : lowR Try.prog Try.f3.results.toList = some rv3 := by kernel_rfl
theorem bod3 : Try.f3.body = some (Try.f3.body.getD .skip) := by kernel_rfl
theorem cal3 : callable Try.prog 3 = true := by kernel_rfl

end Go.Proofs.YtgmcijagaielaaaE

/-! The law of FabricOk. -/
namespace Go.Proofs.YtgmcijagaielaaaE
open Go Go.RowKit
set_option linter.unusedSimpArgs false
set_option linter.unusedVariables false
set_option maxRecDepth 20000
set_option maxHeartbeats 4000000

theorem take_pm {k : Int} {n : Nat} : (pathMarks k n).take n = pathMarks k n := List.take_of_length_le (by rw [pathMarks_len]; omega)
theorem held_pm {n : Nat} : heldPth (pathMarks 1 n) 1 = 1 + 3 * n := by unfold heldPth; rw [pathMarks_len, if_pos rfl]
theorem bb_self {b : Bool} : (b == b) = true := by simp
theorem szStep_len {a : Nat} {n : Int} (h0 : 0 ≤ n) (h : ¬ szStep a n < 0) : (a : Int) ≤ n := by
  unfold szStep at h
  split at h <;> omega
def spLaw3 : Spec := ⟨fun _ _ => [], fun args objs K => match args, objs with
  | [.agg [.v (.int .i64 s), .v (.int .i64 p), .v (.int .i64 m), .rs .path q]], [] => q.length ≤ 17592186044416 ∧ K (.v (.bool true)) [] 0
  | _, _ => False, false⟩
theorem spLaw3_t {L : Hp} {a : List AVal} : Spec.take spLaw3 L a = [] := id rfl
theorem spLaw3_k : Spec.keep spLaw3 = false := id rfl
theorem spLaw3_f {s} {p} {m} {q} {K : AVal → Hp → Nat → Prop} : Spec.f spLaw3 ([.agg [.v (.int .i64 s), .v (.int .i64 p), .v (.int .i64 m), .rs .path q]]) ([]) K = (q.length ≤ 17592186044416 ∧ K (.v (.bool true)) [] 0) := id rfl
theorem valid3 : Valid Try.prog 3 spLaw3 := by
  refine validI (Γ := lk [(9, spSzFb), (11, spToFb), (10, spFbOk), (12, spFbOk), (13, spEqFb)]) Try.func3 bod3 low3 res3 (good_of ⟨⟨cal9, valid9⟩, ⟨cal11, valid11⟩, ⟨cal10, valid10⟩, ⟨cal12, valid12⟩, ⟨cal13, valid13⟩, trivial⟩) ?_
  intro E args objs K h hE hG hP
  simp only [spLaw3] at h
  split at h
  · refine ⟨by simp [Try.ntmps3], ?_⟩
    rename_i s p m q
    obtain ⟨b1, h⟩ := h
    simp (config := { maxSteps := 2000000 }) only [go_sem, hG, hP, Nat.reduceEqDiff, ↓reduceIte, reduceCtorEq, Nat.reduceAdd, Nat.reduceSub, Nat.reduceMul, Nat.reduceLT, Nat.reduceLeDiff, Int.reduceAdd, Int.reduceSub, Int.reduceMul, Int.reduceLT, Int.reduceLE, Int.reduceEq, Int.reduceNeg, Int.reduceNe, Int.reduceGE, Int.reduceGT, Nat.reduceBEq, Int.reduceToNat,  spSzFb_f, spSzFb_t, spSzFb_k, spToFb_f, spToFb_t, spToFb_k, spFbOk_f, spFbOk_t, spFbOk_k, spEqFb_f, spEqFb_t, spEqFb_k, bb_self]
    repeat (refine And.intro (by first | omega | (simp; done) | (simp; omega) | (unfold appRoom; omega)) ?_)
    refine ⟨fun hs => ⟨_, _, _, ?_, h⟩, fun hs => ?_⟩
    · simp (config := { maxSteps := 2000000 }) only [go_sem, hG, hP, Nat.reduceEqDiff, ↓reduceIte, reduceCtorEq, Nat.reduceAdd, Nat.reduceSub, Nat.reduceMul, Nat.reduceLT, Nat.reduceLeDiff, Int.reduceAdd, Int.reduceSub, Int.reduceMul, Int.reduceLT, Int.reduceLE, Int.reduceEq, Int.reduceNeg, Int.reduceNe, Int.reduceGE, Int.reduceGT, Nat.reduceBEq, Int.reduceToNat]
    have hz := szStep_len (by omega) hs
    repeat' (first | (refine And.intro ?_ ?_) | (with_reducible intro _))
    all_goals first | omega | (refine ⟨_, _, _, ?_, h⟩; simp (config := { maxSteps := 2000000 }) only [go_sem, hG, hP, Nat.reduceEqDiff, ↓reduceIte, reduceCtorEq, Nat.reduceAdd, Nat.reduceSub, Nat.reduceMul, Nat.reduceLT, Nat.reduceLeDiff, Int.reduceAdd, Int.reduceSub, Int.reduceMul, Int.reduceLT, Int.reduceLE, Int.reduceEq, Int.reduceNeg, Int.reduceNe, Int.reduceGE, Int.reduceGT, Nat.reduceBEq, Int.reduceToNat]; all_goals (first | (simp; done) | omega))
  · exact h.elim
end Go.Proofs.YtgmcijagaielaaaE

/-! The code of a function, in the engine's words. -/
namespace Go.Proofs.YtgmcijagaielaaaE
open Go Go.RowKit
@[reducible] def ic14 : IC := (.seq (.ops [⟨some 2, .box (.tmp 0), none⟩, ⟨some 4, .new [(.int .i64 0), (.int .i64 0), (.int .i64 0), (.slice none 0 0)], none⟩, ⟨some 5, .mov (.const (.int .i64 0)), none⟩]) (.seq (.ops [⟨some 7, .load 4 true (.tmp 2), none⟩, ⟨some 8, .call 39 [(.tmp 7)], none⟩, ⟨none, .store 4 (.tmp 2) (.tmp 8), none⟩]) (.seq (.seq (.ops [⟨some 9, .load 4 true (.tmp 2), none⟩, ⟨some 10, .call 10 [(.tmp 9)], none⟩, ⟨some 11, .una .not (.tmp 10), none⟩, ⟨some 12, .mov (.tmp 11), none⟩, ⟨some 13, .load 4 true (.tmp 2), some (12, false)⟩, ⟨some 14, .mov (.tmp 1), some (12, false)⟩, ⟨some 15, .call 36 [(.tmp 13), (.tmp 14)], some (12, false)⟩, ⟨some 16, .una .not (.tmp 15), some (12, false)⟩, ⟨some 17, .pick (.tmp 12) (.const (.bool true)) (.tmp 16), none⟩]) (.cond (.tmp 17) (.seq (.ops [⟨some 18, .load 4 true (.tmp 2), none⟩, ⟨none, .store 4 (.tmp 4) (.tmp 18), none⟩, ⟨some 5, .mov (.const (.int .i64 1)), none⟩]) .ret) .skip)) (.seq (.seq (.ops [⟨some 6, .mov (.const (.int .i64 0)), none⟩]) (.block 0 (.loop (.seq (.seq (.ops [⟨some 19, .mov (.tmp 6), none⟩, ⟨some 20, .fadr 3 (.tmp 2), none⟩, ⟨some 21, .load 1 false (.tmp 20), none⟩, ⟨some 22, .len (.tmp 21), none⟩, ⟨some 23, .bin .lss (.tmp 19) (.tmp 22), none⟩]) (.cond (.tmp 23) .skip (.exit 0))) (.seq (.block 1 (.seq (.ops [⟨some 26, .fadr 3 (.tmp 2), none⟩, ⟨some 27, .load 1 false (.tmp 26), none⟩, ⟨some 28, .mov (.tmp 6), none⟩, ⟨some 29, .iadr 3 (.tmp 27) (.tmp 28), none⟩, ⟨some 30, .fadr 0 (.tmp 29), none⟩, ⟨some 31, .load 1 false (.tmp 30), none⟩, ⟨some 32, .mov (.tmp 1), none⟩, ⟨some 33, .bin .eql (.tmp 31) (.tmp 32), none⟩]) (.cond (.tmp 33) (.seq (.draw [⟨some 34, .fadr 3 (.tmp 2), none⟩, ⟨some 35, .load 1 false (.tmp 34), none⟩, ⟨some 36, .mov (.tmp 6), none⟩, ⟨some 37, .slc 3 (.tmp 35) none (some (.tmp 36)), none⟩, ⟨some 38, .fadr 3 (.tmp 2), none⟩, ⟨some 39, .load 1 false (.tmp 38), none⟩, ⟨some 40, .mov (.tmp 6), none⟩, ⟨some 41, .bin .add (.tmp 40) (.const (.int .i64 1)), none⟩, ⟨some 42, .slc 3 (.tmp 39) (some (.tmp 41)) none, none⟩, ⟨some 43, .app .path 24 (.tmp 37) (.tmp 42), none⟩, ⟨some 44, .fadr 3 (.tmp 2), none⟩, ⟨none, .store 1 (.tmp 44) (.tmp 43), none⟩] (.held ⟨some 34, .fadr 3 (.tmp 2), none⟩ (.held ⟨some 35, .load 1 false (.tmp 34), none⟩ (.held ⟨some 36, .mov (.tmp 6), none⟩ (.held ⟨some 37, .slc 3 (.tmp 35) none (some (.tmp 36)), none⟩ (.held ⟨some 38, .fadr 3 (.tmp 2), none⟩ (.held ⟨some 39, .load 1 false (.tmp 38), none⟩ (.held ⟨some 40, .mov (.tmp 6), none⟩ (.held ⟨some 41, .bin .add (.tmp 40) (.const (.int .i64 1)), none⟩ (.held ⟨some 42, .slc 3 (.tmp 39) (some (.tmp 41)) none, none⟩ (.alt ⟨some 43, .app .path 24 (.tmp 37) (.tmp 42), none⟩ (.held ⟨some 44, .fadr 3 (.tmp 2), none⟩ (.alt ⟨none, .store 1 (.tmp 44) (.tmp 43), none⟩ .done .stop)) .stop))))))))))) (.seq (.ops [⟨some 45, .load 4 true (.tmp 2), none⟩, ⟨none, .store 4 (.tmp 4) (.tmp 45), none⟩, ⟨some 5, .mov (.const (.int .i64 0)), none⟩]) .ret)) .skip))) (.ops [⟨some 24, .mov (.tmp 6), none⟩, ⟨some 25, .bin .add (.tmp 24) (.const (.int .i64 1)), none⟩, ⟨some 6, .mov (.tmp 25), none⟩])))))) (.seq (.ops [⟨some 46, .load 4 true (.tmp 2), none⟩, ⟨none, .store 4 (.tmp 4) (.tmp 46), none⟩, ⟨some 5, .mov (.const (.int .i64 2)), none⟩]) .ret)))))
@[reducible] def rv14 : List RV := [.cell 4 4 true, .tmp 5]
theorem low14 : lowC Try.prog tau Try.f14.ntmps (Try.f14.body.getD .skip) = some (erase ic14) := by kernel_rfl
theorem res14 : lowR Try.prog Try.f14.results.toList = some rv14 := by kernel_rfl
theorem bod14 : Try.f14.body = some (Try.f14.body.getD .skip) := by kernel_rfl
theorem cal14 : callable Try.prog 14 = true := by kernel_rfl

end Go.Proofs.YtgmcijagaielaaaE

/-! The code of a function, in the engine's words. -/
namespace Go.Proofs.YtgmcijagaielaaaE
open Go Go.RowKit
@[reducible] def ic15 : IC := (.seq (.ops [⟨some 2, .box (.tmp 0), none⟩, ⟨some 3, .box (.tmp 1), none⟩, ⟨some 4, .new [(.int .i64 0), (.int .i64 0), (.int .i64 0), (.slice none 0 0)], none⟩, ⟨some 5, .mov (.const (.int .i64 0)), none⟩]) (.seq (.ops [⟨some 7, .load 4 true (.tmp 2), none⟩, ⟨some 8, .call 40 [(.tmp 7)], none⟩, ⟨none, .store 4 (.tmp 2) (.tmp 8), none⟩]) (.seq (.seq (.ops [⟨some 9, .load 4 true (.tmp 2), none⟩, ⟨some 10, .call 12 [(.tmp 9)], none⟩, ⟨some 11, .una .not (.tmp 10), none⟩, ⟨some 12, .mov (.tmp 11), none⟩, ⟨some 13, .load 1 false (.tmp 3), some (12, false)⟩, ⟨some 14, .fadr 0 (.tmp 2), some (12, false)⟩, ⟨some 15, .load 1 false (.tmp 14), some (12, false)⟩, ⟨some 16, .fadr 1 (.tmp 2), some (12, false)⟩, ⟨some 17, .load 1 false (.tmp 16), some (12, false)⟩, ⟨some 18, .bin .mul (.tmp 15) (.tmp 17), some (12, false)⟩, ⟨some 19, .bin .sub (.tmp 18) (.const (.int .i64 1)), some (12, false)⟩, ⟨some 20, .call 38 [(.tmp 13), (.const (.int .i64 0)), (.tmp 19)], some (12, false)⟩, ⟨some 21, .una .not (.tmp 20), some (12, false)⟩, ⟨some 22, .pick (.tmp 12) (.const (.bool true)) (.tmp 21), none⟩]) (.cond (.tmp 22) (.seq (.ops [⟨some 23, .load 4 true (.tmp 2), none⟩, ⟨none, .store 4 (.tmp 4) (.tmp 23), none⟩, ⟨some 5, .mov (.const (.int .i64 1)), none⟩]) .ret) .skip)) (.seq (.ops [⟨some 24, .fadr 3 (.tmp 2), none⟩, ⟨some 25, .load 1 false (.tmp 24), none⟩, ⟨some 26, .mfn 42 [(.tmp 3)], none⟩, ⟨some 27, .call 41 [(.tmp 25), (.tmp 26)], none⟩, ⟨some 6, .mov (.tmp 27), none⟩]) (.seq (.seq (.ops [⟨some 28, .mov (.tmp 6), none⟩, ⟨some 29, .bin .lss (.tmp 28) (.const (.int .i64 0)), none⟩]) (.cond (.tmp 29) (.seq (.ops [⟨some 30, .load 4 true (.tmp 2), none⟩, ⟨none, .store 4 (.tmp 4) (.tmp 30), none⟩, ⟨some 5, .mov (.const (.int .i64 2)), none⟩]) .ret) .skip)) (.seq (.ops [⟨some 31, .fadr 3 (.tmp 2), none⟩, ⟨some 32, .load 1 false (.tmp 31), none⟩, ⟨some 33, .mov (.tmp 6), none⟩, ⟨some 34, .mov (.tmp 6), none⟩, ⟨some 35, .bin .add (.tmp 34) (.const (.int .i64 1)), none⟩, ⟨some 36, .call 43 [(.tmp 32), (.tmp 33), (.tmp 35)], none⟩, ⟨some 37, .fadr 3 (.tmp 2), none⟩, ⟨none, .store 1 (.tmp 37) (.tmp 36), none⟩]) (.seq (.ops [⟨some 38, .load 4 true (.tmp 2), none⟩, ⟨none, .store 4 (.tmp 4) (.tmp 38), none⟩, ⟨some 5, .mov (.const (.int .i64 0)), none⟩]) .ret)))))))
@[reducible] def rv15 : List RV := [.cell 4 4 true, .tmp 5]
theorem low15 : lowC Try.prog tau Try.f15.ntmps (Try.f15.body.getD .skip) = some (erase ic15) := by kernel_rfl
theorem res15 : lowR Try.prog Try.f15.results.toList = some rv15 := by kernel_rfl
theorem bod15 : Try.f15.body = some (Try.f15.body.getD .skip) := by kernel_rfl
theorem cal15 : callable Try.prog 15 = true := by kernel_rfl

end Go.Proofs.YtgmcijagaielaaaE

/-! The code of a function, in the engine's words. -/
namespace Go.Proofs.YtgmcijagaielaaaE
open Go Go.RowKit
@[reducible] def ic4 : IC := (.seq (.ops [⟨some 2, .box (.tmp 0), none⟩, ⟨some 4, .mov (.const (.bool false)), none⟩]) (.seq (.ops [⟨some 5, .mov (.const (.int .i64 1048576)), none⟩]) (.seq (.ops [⟨some 16, .load 4 true (.tmp 2), none⟩, ⟨some 17, .mov (.tmp 5), none⟩, ⟨some 18, .call 9 [(.tmp 16), (.tmp 17)], none⟩, ⟨some 5, .mov (.tmp 18), none⟩]) (.seq (.seq (.ops [⟨some 19, .mov (.tmp 5), none⟩, ⟨some 20, .bin .lss (.tmp 19) (.const (.int .i64 0)), none⟩]) (.cond (.tmp 20) (.seq (.ops [⟨some 4, .mov (.const (.bool true)), none⟩]) .ret) .skip)) (.seq (.ops [⟨some 22, .load 4 true (.tmp 2), none⟩, ⟨some 23, .call 11 [(.tmp 22)], none⟩, ⟨some 24, .mov (.tmp 1), none⟩, ⟨some 25, .call 14 [(.tmp 23), (.tmp 24)], none⟩, ⟨some 21, .mov (.tmp 25), none⟩, ⟨some 26, .ext (.tmp 21) 0, none⟩, ⟨some 27, .ext (.tmp 21) 1, none⟩, ⟨some 6, .new [(.int .i64 0), (.int .i64 0), (.int .i64 0), (.slice none 0 0)], none⟩, ⟨none, .store 4 (.tmp 6) (.tmp 26), none⟩, ⟨some 7, .mov (.tmp 27), none⟩]) (.seq (.ops [⟨some 28, .load 4 true (.tmp 2), none⟩, ⟨some 29, .call 11 [(.tmp 28)], none⟩, ⟨some 8, .new [(.int .i64 0), (.int .i64 0), (.int .i64 0), (.slice none 0 0)], none⟩, ⟨none, .store 4 (.tmp 8) (.tmp 29), none⟩]) (.seq (.ops [⟨some 31, .load 4 true (.tmp 8), none⟩, ⟨some 32, .mov (.tmp 1), none⟩, ⟨some 33, .call 15 [(.tmp 31), (.tmp 32)], none⟩, ⟨some 30, .mov (.tmp 33), none⟩, ⟨some 34, .ext (.tmp 30) 0, none⟩, ⟨some 35, .ext (.tmp 30) 1, none⟩, ⟨some 9, .new [(.int .i64 0), (.int .i64 0), (.int .i64 0), (.slice none 0 0)], none⟩, ⟨none, .store 4 (.tmp 9) (.tmp 34), none⟩, ⟨some 10, .mov (.tmp 35), none⟩]) (.seq (.seq (.ops [⟨some 36, .load 4 true (.tmp 9), none⟩, ⟨some 37, .load 4 true (.tmp 6), none⟩, ⟨some 38, .call 13 [(.tmp 36), (.tmp 37)], none⟩, ⟨some 39, .una .not (.tmp 38), none⟩, ⟨some 40, .mov (.tmp 39), none⟩, ⟨some 41, .mov (.tmp 10), some (40, false)⟩, ⟨some 42, .mov (.tmp 7), some (40, false)⟩, ⟨some 43, .bin .neq (.tmp 41) (.tmp 42), some (40, false)⟩, ⟨some 44, .pick (.tmp 40) (.const (.bool true)) (.tmp 43), none⟩]) (.cond (.tmp 44) (.seq (.ops [⟨some 4, .mov (.const (.bool false)), none⟩]) .ret) .skip)) (.seq (.seq (.draw [⟨some 45, .load 4 true (.tmp 8), none⟩, ⟨some 46, .load 4 true (.tmp 2), none⟩, ⟨some 47, .call 11 [(.tmp 46)], none⟩, ⟨some 48, .call 13 [(.tmp 45), (.tmp 47)], none⟩, ⟨some 49, .una .not (.tmp 48), none⟩] (.held ⟨some 45, .load 4 true (.tmp 8), none⟩ (.held ⟨some 46, .load 4 true (.tmp 2), none⟩ (.alt ⟨some 47, .call 11 [(.tmp 46)], none⟩ (.alt ⟨some 48, .call 13 [(.tmp 45), (.tmp 47)], none⟩ (.held ⟨some 49, .una .not (.tmp 48), none⟩ .done) .stop) .stop)))) (.cond (.tmp 49) (.seq (.ops [⟨some 4, .mov (.const (.bool false)), none⟩]) .ret) .skip)) (.seq (.ops [⟨some 11, .mov (.const (.int .i64 1)), none⟩]) (.seq (.ops [⟨some 50, .load 4 true (.tmp 8), none⟩, ⟨some 51, .mov (.tmp 11), none⟩, ⟨some 52, .call 16 [(.tmp 50), (.tmp 51)], none⟩, ⟨some 11, .mov (.tmp 52), none⟩]) (.seq (.seq (.ops [⟨some 53, .mov (.tmp 11), none⟩, ⟨some 54, .bin .lss (.tmp 53) (.const (.int .i64 0)), none⟩, ⟨some 55, .mov (.tmp 54), none⟩, ⟨some 56, .load 4 true (.tmp 9), some (55, false)⟩, ⟨some 57, .load 4 true (.tmp 6), some (55, false)⟩, ⟨some 58, .call 13 [(.tmp 56), (.tmp 57)], some (55, false)⟩, ⟨some 59, .una .not (.tmp 58), some (55, false)⟩, ⟨some 60, .pick (.tmp 55) (.const (.bool true)) (.tmp 59), none⟩, ⟨some 61, .mov (.tmp 60), none⟩, ⟨some 62, .mov (.tmp 10), some (61, false)⟩, ⟨some 63, .mov (.tmp 7), some (61, false)⟩, ⟨some 64, .bin .neq (.tmp 62) (.tmp 63), some (61, false)⟩, ⟨some 65, .pick (.tmp 61) (.const (.bool true)) (.tmp 64), none⟩]) (.cond (.tmp 65) (.seq (.ops [⟨some 4, .mov (.const (.bool false)), none⟩]) .ret) .skip)) (.seq (.ops [⟨some 12, .mov (.const (.int .i64 1)), none⟩]) (.seq (.ops [⟨some 66, .load 4 true (.tmp 9), none⟩, ⟨some 67, .mov (.tmp 12), none⟩, ⟨some 68, .call 16 [(.tmp 66), (.tmp 67)], none⟩, ⟨some 12, .mov (.tmp 68), none⟩]) (.seq (.ops [⟨some 13, .mov (.const (.int .i64 1)), none⟩]) (.seq (.ops [⟨some 69, .load 4 true (.tmp 9), none⟩, ⟨some 70, .mov (.tmp 13), none⟩, ⟨some 71, .call 17 [(.tmp 69), (.tmp 70)], none⟩, ⟨some 13, .mov (.tmp 71), none⟩]) (.seq (.seq (.ops [⟨some 72, .mov (.tmp 13), none⟩, ⟨some 73, .bin .lss (.tmp 72) (.const (.int .i64 0)), none⟩]) (.cond (.tmp 73) (.seq (.ops [⟨some 4, .mov (.const (.bool false)), none⟩]) .ret) .skip)) (.seq (.seq (.ops [⟨some 74, .mov (.tmp 13), none⟩, ⟨some 75, .mov (.tmp 12), none⟩, ⟨some 76, .bin .neq (.tmp 74) (.tmp 75), none⟩]) (.cond (.tmp 76) (.seq (.ops [⟨some 4, .mov (.const (.bool false)), none⟩]) .ret) .skip)) (.seq (.ops [⟨some 78, .load 4 true (.tmp 2), none⟩, ⟨some 79, .call 11 [(.tmp 78)], none⟩, ⟨some 80, .mov (.tmp 1), none⟩, ⟨some 81, .call 15 [(.tmp 79), (.tmp 80)], none⟩, ⟨some 77, .mov (.tmp 81), none⟩, ⟨some 82, .ext (.tmp 77) 0, none⟩, ⟨some 83, .ext (.tmp 77) 1, none⟩, ⟨some 14, .new [(.int .i64 0), (.int .i64 0), (.int .i64 0), (.slice none 0 0)], none⟩, ⟨none, .store 4 (.tmp 14) (.tmp 82), none⟩, ⟨some 15, .mov (.tmp 83), none⟩]) (.seq (.seq (.ops [⟨some 84, .load 4 true (.tmp 14), none⟩, ⟨some 85, .load 4 true (.tmp 6), none⟩, ⟨some 86, .call 13 [(.tmp 84), (.tmp 85)], none⟩, ⟨some 87, .una .not (.tmp 86), none⟩, ⟨some 88, .mov (.tmp 87), none⟩, ⟨some 89, .mov (.tmp 15), some (88, false)⟩, ⟨some 90, .mov (.tmp 7), some (88, false)⟩, ⟨some 91, .bin .neq (.tmp 89) (.tmp 90), some (88, false)⟩, ⟨some 92, .pick (.tmp 88) (.const (.bool true)) (.tmp 91), none⟩]) (.cond (.tmp 92) (.seq (.ops [⟨some 4, .mov (.const (.bool false)), none⟩]) .ret) .skip)) (.seq (.ops [⟨some 13, .mov (.const (.int .i64 1)), none⟩]) (.seq (.ops [⟨some 93, .load 4 true (.tmp 9), none⟩, ⟨some 94, .mov (.tmp 13), none⟩, ⟨some 95, .call 17 [(.tmp 93), (.tmp 94)], none⟩, ⟨some 13, .mov (.tmp 95), none⟩]) (.seq (.seq (.ops [⟨some 96, .mov (.tmp 13), none⟩, ⟨some 97, .bin .lss (.tmp 96) (.const (.int .i64 0)), none⟩]) (.cond (.tmp 97) (.seq (.ops [⟨some 4, .mov (.const (.bool false)), none⟩]) .ret) .skip)) (.seq (.seq (.ops [⟨some 98, .mov (.tmp 13), none⟩, ⟨some 99, .mov (.tmp 12), none⟩, ⟨some 100, .bin .neq (.tmp 98) (.tmp 99), none⟩]) (.cond (.tmp 100) (.seq (.ops [⟨some 4, .mov (.const (.bool false)), none⟩]) .ret) .skip)) (.seq (.ops [⟨some 4, .mov (.const (.bool true)), none⟩]) .ret)))))))))))))))))))))))))
@[reducible] def rv4 : List RV := [.tmp 4]
theorem low4 : lowC Try.prog tau Try.f4.ntmps (Try.f4.body.getD .skip) = some (erase ic4) := by kernel_rfl
theorem res4 : lowR Try.prog Try.f4.results.toList = some rv4 := by kernel_rfl
theorem bod4 : Try.f4.body = some (Try.f4.body.getD .skip) := by kernel_rfl
theorem cal4 : callable Try.prog 4 = true := by kernel_rfl

end Go.Proofs.YtgmcijagaielaaaE

/-! A path is released, twice; the law. -/
namespace Go.Proofs.YtgmcijagaielaaaE
open Go Go.RowKit
set_option linter.unusedSimpArgs false
set_option linter.unusedVariables false
set_option maxRecDepth 20000
set_option maxHeartbeats 4000000

theorem fbOk_is {d : Fb} (h : fbOk d = true) : fbHead d.s d.p d.m ∧ ∀ i, i < d.q.length → okAt d i := of_decide_eq_true h
theorem fbOk_small {d : Fb} (h : fbOk d = true) : allSmall d.q := fun i hi => by
  obtain ⟨⟨h1, h2, h3⟩, h4⟩ := fbOk_is h
  have := okP_bd (h4 i hi).1 (sp_bd ⟨h1, h2⟩).2 h3.2
  exact ⟨this.1, this.2.1⟩
def rel (d : Fb) (x : Int) : List Pth × Int :=
  if fbOk d = true ∧ (0 ≤ x ∧ x ≤ d.s * d.p - 1) then if 0 ≤ fidx (srcP x) d.q then (delAt d.q (fidx (srcP x) d.q).toNat, 0) else (d.q, 2) else (d.q, 1)
theorem rel_bad {d : Fb} {x : Int} (h : ¬ (fbOk d = true ∧ (0 ≤ x ∧ x ≤ d.s * d.p - 1))) : rel d x = (d.q, 1) := by unfold rel; rw [if_neg h]
theorem rel_busy {d : Fb} {x : Int} (h : fbOk d = true ∧ (0 ≤ x ∧ x ≤ d.s * d.p - 1)) (h2 : fidx (srcP x) d.q < 0) : rel d x = (d.q, 2) := by unfold rel; rw [if_pos h, if_neg (by omega)]
theorem rel_done {d : Fb} {x : Int} (h : fbOk d = true ∧ (0 ≤ x ∧ x ≤ d.s * d.p - 1)) (h2 : 0 ≤ fidx (srcP x) d.q) : rel d x = (delAt d.q (fidx (srcP x) d.q).toNat, 0) := by unfold rel; rw [if_pos h, if_pos h2]
theorem rel_len (d : Fb) (x : Int) : (rel d x).1.length ≤ d.q.length := by
  unfold rel
  split
  · split
    · rename_i h; have := fidx_is h; have := delAt_len d.q (fidx (srcP x) d.q).toNat this.1; dsimp only; omega
    · exact Nat.le_refl _
  · exact Nat.le_refl _
def spRel : Spec := ⟨fun _ _ => [], fun args objs K => match args, objs with
  | [.agg [.v (.int .i64 s), .v (.int .i64 p), .v (.int .i64 m), .rs .path q], .v (.int .i64 x)], [] => q.length ≤ 1099511627776 ∧ K (.tup [.agg [.v (.int .i64 s), .v (.int .i64 p), .v (.int .i64 m), .sub 0 3 0 (rel ⟨s, p, m, q⟩ x).1.length], .v (.int .i64 (rel ⟨s, p, m, q⟩ x).2)]) [(0, .row .path (rel ⟨s, p, m, q⟩ x).1)] 1
  | _, _ => False, false⟩
theorem spRel_t {L : Hp} {a : List AVal} : Spec.take spRel L a = [] := id rfl
theorem spRel_k : Spec.keep spRel = false := id rfl
theorem spRel_f {s} {p} {m} {q} {x} {K : AVal → Hp → Nat → Prop} : Spec.f spRel ([.agg [.v (.int .i64 s), .v (.int .i64 p), .v (.int .i64 m), .rs .path q], .v (.int .i64 x)]) ([]) K = (q.length ≤ 1099511627776 ∧ K (.tup [.agg [.v (.int .i64 s), .v (.int .i64 p), .v (.int .i64 m), .sub 0 3 0 (rel ⟨s, p, m, q⟩ x).1.length], .v (.int .i64 (rel ⟨s, p, m, q⟩ x).2)]) [(0, .row .path (rel ⟨s, p, m, q⟩ x).1)] 1) := id rfl
theorem valid15 : Valid Try.prog 15 spRel := by
  refine validI (Γ := lk [(40, spToFb), (12, spFbOk), (38, spIn), (41, spIdx42), (43, spDelete)]) Try.func15 bod15 low15 res15 (good_of ⟨⟨cal40, valid40⟩, ⟨cal12, valid12⟩, ⟨cal38, valid38⟩, ⟨cal41, valid41_42⟩, ⟨cal43, valid43⟩, trivial⟩) ?_
  intro E args objs K h hE hG hP
  simp only [spRel] at h
  split at h
  · refine ⟨by simp [Try.ntmps15], ?_⟩
    rename_i s p m q x
    obtain ⟨b1, h⟩ := h
    rcases hok : fbOk ⟨s, p, m, q⟩ with _ | _
    · rw [rel_bad (by rw [hok]; simp)] at h
      simp (config := { maxSteps := 2000000 }) only [go_sem, hG, hP, Nat.reduceEqDiff, ↓reduceIte, reduceCtorEq, Nat.reduceAdd, Nat.reduceSub, Nat.reduceMul, Nat.reduceLT, Nat.reduceLeDiff, Int.reduceAdd, Int.reduceSub, Int.reduceMul, Int.reduceLT, Int.reduceLE, Int.reduceEq, Int.reduceNeg, Int.reduceNe, Int.reduceGE, Int.reduceGT, Nat.reduceBEq, Int.reduceToNat,  spToFb_f, spToFb_t, spToFb_k, spFbOk_f, spFbOk_t, spFbOk_k, spIn_f, spIn_t, spIn_k, spIdx42_f, spIdx42_t, spIdx42_k, spDelete_f, spDelete_t, spDelete_k, hok, takeF_eq, ptrs_eq, ptrs_nil, take1_eq]
      repeat (refine And.intro (by first | omega | (simp; done) | (simp; omega) | (unfold appRoom; omega)) ?_)
      refine ⟨_, _, _, ?_, h⟩
      simp (config := { maxSteps := 2000000 }) only [go_sem, hG, hP, Nat.reduceEqDiff, ↓reduceIte, reduceCtorEq, Nat.reduceAdd, Nat.reduceSub, Nat.reduceMul, Nat.reduceLT, Nat.reduceLeDiff, Int.reduceAdd, Int.reduceSub, Int.reduceMul, Int.reduceLT, Int.reduceLE, Int.reduceEq, Int.reduceNeg, Int.reduceNe, Int.reduceGE, Int.reduceGT, Nat.reduceBEq, Int.reduceToNat]
      all_goals simp
    · obtain ⟨⟨h1, h2, h3⟩, h4⟩ := fbOk_is hok
      have hsp := sp_bd ⟨h1, h2⟩
      dsimp only at hsp h1 h2 h3
      have wsp : wr .i64 (s * p) = s * p := wrap_id (by omega) (by omega)
      have wsp1 : wr .i64 (s * p - 1) = s * p - 1 := wrap_id (by omega) (by omega)
      by_cases hx : 0 ≤ x ∧ x ≤ s * p - 1
      · have ex : (0 ≤ x ∧ x ≤ s * p - 1) = True := eq_true hx
        have hbd := fidx_bd (srcP x) q
        have hwf : wr .i64 (fidx (srcP x) q + 1) = fidx (srcP x) q + 1 := wrap_id (by omega) (by omega)
        by_cases hf : 0 ≤ fidx (srcP x) q
        · rw [rel_done ⟨hok, hx⟩ hf] at h
          have c0 : (fidx (srcP x) q < 0) = False := eq_false (by omega)
          simp (config := { maxSteps := 2000000 }) only [go_sem, hG, hP, Nat.reduceEqDiff, ↓reduceIte, reduceCtorEq, Nat.reduceAdd, Nat.reduceSub, Nat.reduceMul, Nat.reduceLT, Nat.reduceLeDiff, Int.reduceAdd, Int.reduceSub, Int.reduceMul, Int.reduceLT, Int.reduceLE, Int.reduceEq, Int.reduceNeg, Int.reduceNe, Int.reduceGE, Int.reduceGT, Nat.reduceBEq, Int.reduceToNat,  spToFb_f, spToFb_t, spToFb_k, spFbOk_f, spFbOk_t, spFbOk_k, spIn_f, spIn_t, spIn_k, spIdx42_f, spIdx42_t, spIdx42_k, spDelete_f, spDelete_t, spDelete_k, hok, takeF_eq, ptrs_eq, ptrs_nil, take1_eq, wsp, wsp1, ex, c0, hwf]
          repeat (refine And.intro (by first | omega | (simp; done) | (simp; omega) | (unfold appRoom; omega)) ?_)
          refine ⟨_, _, _, ?_, h⟩
          simp (config := { maxSteps := 2000000 }) only [go_sem, hG, hP, Nat.reduceEqDiff, ↓reduceIte, reduceCtorEq, Nat.reduceAdd, Nat.reduceSub, Nat.reduceMul, Nat.reduceLT, Nat.reduceLeDiff, Int.reduceAdd, Int.reduceSub, Int.reduceMul, Int.reduceLT, Int.reduceLE, Int.reduceEq, Int.reduceNeg, Int.reduceNe, Int.reduceGE, Int.reduceGT, Nat.reduceBEq, Int.reduceToNat]
          all_goals simp
        · rw [rel_busy ⟨hok, hx⟩ (by exact Int.not_le.1 hf)] at h
          have c0 : (fidx (srcP x) q < 0) = True := eq_true (by omega)
          simp (config := { maxSteps := 2000000 }) only [go_sem, hG, hP, Nat.reduceEqDiff, ↓reduceIte, reduceCtorEq, Nat.reduceAdd, Nat.reduceSub, Nat.reduceMul, Nat.reduceLT, Nat.reduceLeDiff, Int.reduceAdd, Int.reduceSub, Int.reduceMul, Int.reduceLT, Int.reduceLE, Int.reduceEq, Int.reduceNeg, Int.reduceNe, Int.reduceGE, Int.reduceGT, Nat.reduceBEq, Int.reduceToNat,  spToFb_f, spToFb_t, spToFb_k, spFbOk_f, spFbOk_t, spFbOk_k, spIn_f, spIn_t, spIn_k, spIdx42_f, spIdx42_t, spIdx42_k, spDelete_f, spDelete_t, spDelete_k, hok, takeF_eq, ptrs_eq, ptrs_nil, take1_eq, wsp, wsp1, ex, c0]
          repeat (refine And.intro (by first | omega | (simp; done) | (simp; omega) | (unfold appRoom; omega)) ?_)
          refine ⟨_, _, _, ?_, h⟩
          simp (config := { maxSteps := 2000000 }) only [go_sem, hG, hP, Nat.reduceEqDiff, ↓reduceIte, reduceCtorEq, Nat.reduceAdd, Nat.reduceSub, Nat.reduceMul, Nat.reduceLT, Nat.reduceLeDiff, Int.reduceAdd, Int.reduceSub, Int.reduceMul, Int.reduceLT, Int.reduceLE, Int.reduceEq, Int.reduceNeg, Int.reduceNe, Int.reduceGE, Int.reduceGT, Nat.reduceBEq, Int.reduceToNat]
          all_goals simp
      · have ex : (0 ≤ x ∧ x ≤ s * p - 1) = False := eq_false hx
        rw [rel_bad (fun e => hx e.2)] at h
        simp (config := { maxSteps := 2000000 }) only [go_sem, hG, hP, Nat.reduceEqDiff, ↓reduceIte, reduceCtorEq, Nat.reduceAdd, Nat.reduceSub, Nat.reduceMul, Nat.reduceLT, Nat.reduceLeDiff, Int.reduceAdd, Int.reduceSub, Int.reduceMul, Int.reduceLT, Int.reduceLE, Int.reduceEq, Int.reduceNeg, Int.reduceNe, Int.reduceGE, Int.reduceGT, Nat.reduceBEq, Int.reduceToNat,  spToFb_f, spToFb_t, spToFb_k, spFbOk_f, spFbOk_t, spFbOk_k, spIn_f, spIn_t, spIn_k, spIdx42_f, spIdx42_t, spIdx42_k, spDelete_f, spDelete_t, spDelete_k, hok, takeF_eq, ptrs_eq, ptrs_nil, take1_eq, wsp, wsp1, ex]
        repeat (refine And.intro (by first | omega | (simp; done) | (simp; omega) | (unfold appRoom; omega)) ?_)
        refine ⟨_, _, _, ?_, h⟩
        simp (config := { maxSteps := 2000000 }) only [go_sem, hG, hP, Nat.reduceEqDiff, ↓reduceIte, reduceCtorEq, Nat.reduceAdd, Nat.reduceSub, Nat.reduceMul, Nat.reduceLT, Nat.reduceLeDiff, Int.reduceAdd, Int.reduceSub, Int.reduceMul, Int.reduceLT, Int.reduceLE, Int.reduceEq, Int.reduceNeg, Int.reduceNe, Int.reduceGE, Int.reduceGT, Nat.reduceBEq, Int.reduceToNat]
        all_goals simp
  · exact h.elim
theorem valid14 : Valid Try.prog 14 spRel := by
  refine validI (Γ := lk [(39, spToFb), (10, spFbOk), (36, spEnd)]) Try.func14 bod14 low14 res14 (good_of ⟨⟨cal39, valid39⟩, ⟨cal10, valid10⟩, ⟨cal36, valid36⟩, trivial⟩) ?_
  intro E args objs K h hE hG hP
  simp only [spRel] at h
  split at h
  · refine ⟨by simp [Try.ntmps14], ?_⟩
    rename_i s p m q x
    obtain ⟨b1, h⟩ := h
    rcases hok : fbOk ⟨s, p, m, q⟩ with _ | _
    · rw [rel_bad (by rw [hok]; simp)] at h
      simp (config := { maxSteps := 2000000 }) only [go_sem, hG, hP, Nat.reduceEqDiff, ↓reduceIte, reduceCtorEq, Nat.reduceAdd, Nat.reduceSub, Nat.reduceMul, Nat.reduceLT, Nat.reduceLeDiff, Int.reduceAdd, Int.reduceSub, Int.reduceMul, Int.reduceLT, Int.reduceLE, Int.reduceEq, Int.reduceNeg, Int.reduceNe, Int.reduceGE, Int.reduceGT, Nat.reduceBEq, Int.reduceToNat,  spToFb_f, spToFb_t, spToFb_k, spFbOk_f, spFbOk_t, spFbOk_k, spEnd_f, spEnd_t, spEnd_k, hok]
      repeat (refine And.intro (by first | omega | (simp; done) | (simp; omega) | (unfold appRoom; omega)) ?_)
      refine ⟨_, _, _, ?_, h⟩
      simp (config := { maxSteps := 2000000 }) only [go_sem, hG, hP, Nat.reduceEqDiff, ↓reduceIte, reduceCtorEq, Nat.reduceAdd, Nat.reduceSub, Nat.reduceMul, Nat.reduceLT, Nat.reduceLeDiff, Int.reduceAdd, Int.reduceSub, Int.reduceMul, Int.reduceLT, Int.reduceLE, Int.reduceEq, Int.reduceNeg, Int.reduceNe, Int.reduceGE, Int.reduceGT, Nat.reduceBEq, Int.reduceToNat]
      all_goals simp
    · obtain ⟨⟨h1, h2, h3⟩, h4⟩ := fbOk_is hok
      have hsp := sp_bd ⟨h1, h2⟩
      dsimp only at hsp h1 h2 h3
      by_cases hx : 0 ≤ x ∧ x ≤ s * p - 1
      · have ex : (0 ≤ x ∧ x ≤ s * p - 1) = True := eq_true hx
        simp (config := { maxSteps := 2000000 }) only [go_sem, hG, hP, Nat.reduceEqDiff, ↓reduceIte, reduceCtorEq, Nat.reduceAdd, Nat.reduceSub, Nat.reduceMul, Nat.reduceLT, Nat.reduceLeDiff, Int.reduceAdd, Int.reduceSub, Int.reduceMul, Int.reduceLT, Int.reduceLE, Int.reduceEq, Int.reduceNeg, Int.reduceNe, Int.reduceGE, Int.reduceGT, Nat.reduceBEq, Int.reduceToNat,  spToFb_f, spToFb_t, spToFb_k, spFbOk_f, spFbOk_t, spFbOk_k, spEnd_f, spEnd_t, spEnd_k, hok, ex]
        repeat (refine And.intro (by first | omega | (simp; done) | (simp; omega) | (unfold appRoom; omega)) ?_)
        refine loopI hE (fun i : Nat => ⟨[(1, .v (.int .i64 x)), (2, .ptr 0 0), (4, .ptr 1 0), (6, .v (.int .i64 i))], [(0, .box [.v (.int .i64 s), .v (.int .i64 p), .v (.int .i64 m), .sub 2 3 0 q.length]), (1, .box [.v (.int .i64 0), .v (.int .i64 0), .v (.int .i64 0), .v (.slice none 0 0)]), (2, .row .path q)], 3, Try.f14.ntmps⟩) (fun i => i ≤ q.length ∧ ∀ j, j < i → srcP x (q.getD j Pz) = false) (fun i => q.length - i) ⟨0, ⟨Nat.zero_le _, fun i hi => absurd hi (Nat.not_lt_zero _)⟩, SubS.weak ?_⟩ ?_
        · simp (config := { maxSteps := 2000000 }) only [go_sem, hG, hP, Nat.reduceEqDiff, ↓reduceIte, reduceCtorEq, Nat.reduceAdd, Nat.reduceSub, Nat.reduceMul, Nat.reduceLT, Nat.reduceLeDiff, Int.reduceAdd, Int.reduceSub, Int.reduceMul, Int.reduceLT, Int.reduceLE, Int.reduceEq, Int.reduceNeg, Int.reduceNe, Int.reduceGE, Int.reduceGT, Nat.reduceBEq, Int.reduceToNat]
          repeat' (first | with_reducible rfl | (refine And.intro ?_ ?_) | (refine congrArg (Value.int _) ?_; omega) | omega)
        · intro i ⟨hi, hpre⟩
          by_cases hlt : i < q.length
          · have e0 : ((i : Int) < (q.length : Int)) = True := eq_true (by omega)
            have hit := @fidx_hit (srcP x) q i hlt hpre
            generalize hxx : q.getD i Pz = y at *
            have t1 : ((i : Int) - 0).toNat = i := by omega
            have t2 : ((i : Int) + 1).toNat = i + 1 := by omega
            have t3 : ((q.length : Int) - ((i : Int) + 1)).toNat = q.length - (i + 1) := by omega
            have t4 : (q.drop (i + 1)).take (q.length - (i + 1)) = q.drop (i + 1) := List.take_of_length_le (by rw [List.length_drop]; omega)
            have t5 : (q.drop (i + 1)).length = q.length - (i + 1) := List.length_drop
            have t6 : i + (q.length - (i + 1)) = (delAt q i).length := by have := delAt_len q i (by omega); omega
            have t10 := delAt_len q i (by omega)
            have wi : wr .i64 ((i : Int) + 1) = (i : Int) + 1 := wrap_id (by omega) (by omega)
            simp (config := { maxSteps := 2000000 }) only [go_sem, hG, hP, Nat.reduceEqDiff, ↓reduceIte, reduceCtorEq, Nat.reduceAdd, Nat.reduceSub, Nat.reduceMul, Nat.reduceLT, Nat.reduceLeDiff, Int.reduceAdd, Int.reduceSub, Int.reduceMul, Int.reduceLT, Int.reduceLE, Int.reduceEq, Int.reduceNeg, Int.reduceNe, Int.reduceGE, Int.reduceGT, Nat.reduceBEq, Int.reduceToNat,  hxx, e0, wi, t1, t2, t3, t4, t5, t6]
            repeat (refine And.intro (by first | omega | (simp; done) | (simp; omega) | (unfold appRoom; omega)) ?_)
            refine ⟨fun hy => ?_, fun hn => ?_⟩
            · have hf := hit (by simp only [srcP]; exact decide_eq_true hy)
              rw [rel_done ⟨hok, hx⟩ (by show 0 ≤ fidx (srcP x) q; omega)] at h
              simp only [hf, Int.toNat_natCast] at h
              repeat (refine And.intro (by first | omega | (simp; done) | (simp; omega) | (unfold appRoom; omega)) ?_)
              refine .inr ?_
              refine ⟨_, _, _, ?_, h⟩
              simp (config := { maxSteps := 2000000 }) only [go_sem, hG, hP, Nat.reduceEqDiff, ↓reduceIte, reduceCtorEq, Nat.reduceAdd, Nat.reduceSub, Nat.reduceMul, Nat.reduceLT, Nat.reduceLeDiff, Int.reduceAdd, Int.reduceSub, Int.reduceMul, Int.reduceLT, Int.reduceLE, Int.reduceEq, Int.reduceNeg, Int.reduceNe, Int.reduceGE, Int.reduceGT, Nat.reduceBEq, Int.reduceToNat]
              all_goals simp [delAt]
            · refine ⟨i + 1, ⟨⟨by omega, upto_succ hpre (by rw [hxx]; exact decide_eq_false hn)⟩, by omega⟩, SubS.weak ?_⟩
              simp (config := { maxSteps := 2000000 }) only [go_sem, hG, hP, Nat.reduceEqDiff, ↓reduceIte, reduceCtorEq, Nat.reduceAdd, Nat.reduceSub, Nat.reduceMul, Nat.reduceLT, Nat.reduceLeDiff, Int.reduceAdd, Int.reduceSub, Int.reduceMul, Int.reduceLT, Int.reduceLE, Int.reduceEq, Int.reduceNeg, Int.reduceNe, Int.reduceGE, Int.reduceGT, Nat.reduceBEq, Int.reduceToNat]
              repeat' (first | with_reducible rfl | (refine And.intro ?_ ?_) | (refine congrArg (Value.int _) ?_; omega) | omega)
          · have e0 : ((i : Int) < (q.length : Int)) = False := eq_false (by omega)
            obtain rfl : i = q.length := by omega
            rw [rel_busy ⟨hok, hx⟩ (by show fidx (srcP x) q < 0; rw [fidx_none hpre]; omega)] at h
            simp (config := { maxSteps := 2000000 }) only [go_sem, hG, hP, Nat.reduceEqDiff, ↓reduceIte, reduceCtorEq, Nat.reduceAdd, Nat.reduceSub, Nat.reduceMul, Nat.reduceLT, Nat.reduceLeDiff, Int.reduceAdd, Int.reduceSub, Int.reduceMul, Int.reduceLT, Int.reduceLE, Int.reduceEq, Int.reduceNeg, Int.reduceNe, Int.reduceGE, Int.reduceGT, Nat.reduceBEq, Int.reduceToNat,  e0]
            repeat (refine And.intro (by first | omega | (simp; done) | (simp; omega) | (unfold appRoom; omega)) ?_)
            refine ⟨_, _, _, ?_, h⟩
            simp (config := { maxSteps := 2000000 }) only [go_sem, hG, hP, Nat.reduceEqDiff, ↓reduceIte, reduceCtorEq, Nat.reduceAdd, Nat.reduceSub, Nat.reduceMul, Nat.reduceLT, Nat.reduceLeDiff, Int.reduceAdd, Int.reduceSub, Int.reduceMul, Int.reduceLT, Int.reduceLE, Int.reduceEq, Int.reduceNeg, Int.reduceNe, Int.reduceGE, Int.reduceGT, Nat.reduceBEq, Int.reduceToNat]
            all_goals simp
      · have ex : (0 ≤ x ∧ x ≤ s * p - 1) = False := eq_false hx
        rw [rel_bad (fun e => hx e.2)] at h
        simp (config := { maxSteps := 2000000 }) only [go_sem, hG, hP, Nat.reduceEqDiff, ↓reduceIte, reduceCtorEq, Nat.reduceAdd, Nat.reduceSub, Nat.reduceMul, Nat.reduceLT, Nat.reduceLeDiff, Int.reduceAdd, Int.reduceSub, Int.reduceMul, Int.reduceLT, Int.reduceLE, Int.reduceEq, Int.reduceNeg, Int.reduceNe, Int.reduceGE, Int.reduceGT, Nat.reduceBEq, Int.reduceToNat,  spToFb_f, spToFb_t, spToFb_k, spFbOk_f, spFbOk_t, spFbOk_k, spEnd_f, spEnd_t, spEnd_k, hok, ex]
        repeat (refine And.intro (by first | omega | (simp; done) | (simp; omega) | (unfold appRoom; omega)) ?_)
        refine ⟨_, _, _, ?_, h⟩
        simp (config := { maxSteps := 2000000 }) only [go_sem, hG, hP, Nat.reduceEqDiff, ↓reduceIte, reduceCtorEq, Nat.reduceAdd, Nat.reduceSub, Nat.reduceMul, Nat.reduceLT, Nat.reduceLeDiff, Int.reduceAdd, Int.reduceSub, Int.reduceMul, Int.reduceLT, Int.reduceLE, Int.reduceEq, Int.reduceNeg, Int.reduceNe, Int.reduceGE, Int.reduceGT, Nat.reduceBEq, Int.reduceToNat]
        all_goals simp
  · exact h.elim
def spLaw4 : Spec := ⟨fun _ _ => [], fun args objs K => match args, objs with
  | [.agg [.v (.int .i64 s), .v (.int .i64 p), .v (.int .i64 m), .rs .path q], .v (.int .i64 x)], [] => q.length ≤ 17592186044416 ∧ K (.v (.bool true)) [] 0
  | _, _ => False, false⟩
theorem spLaw4_t {L : Hp} {a : List AVal} : Spec.take spLaw4 L a = [] := id rfl
theorem spLaw4_k : Spec.keep spLaw4 = false := id rfl
theorem spLaw4_f {s} {p} {m} {q} {x} {K : AVal → Hp → Nat → Prop} : Spec.f spLaw4 ([.agg [.v (.int .i64 s), .v (.int .i64 p), .v (.int .i64 m), .rs .path q], .v (.int .i64 x)]) ([]) K = (q.length ≤ 17592186044416 ∧ K (.v (.bool true)) [] 0) := id rfl
theorem valid4 : Valid Try.prog 4 spLaw4 := by
  refine validI (Γ := lk [(9, spSzFb), (11, spToFb), (14, spRel), (15, spRel), (13, spEqFb), (16, spMarkFb), (17, spHeldFb)]) Try.func4 bod4 low4 res4 (good_of ⟨⟨cal9, valid9⟩, ⟨cal11, valid11⟩, ⟨cal14, valid14⟩, ⟨cal15, valid15⟩, ⟨cal13, valid13⟩, ⟨cal16, valid16⟩, ⟨cal17, valid17⟩, trivial⟩) ?_
  intro E args objs K h hE hG hP
  simp only [spLaw4] at h
  split at h
  · refine ⟨by simp [Try.ntmps4], ?_⟩
    rename_i s p m q x
    obtain ⟨b1, h⟩ := h
    have hlen := rel_len ⟨s, p, m, q⟩ x
    rcases hl : rel ⟨s, p, m, q⟩ x with ⟨q', c⟩
    rw [hl] at hlen
    dsimp only at hlen
    simp (config := { maxSteps := 2000000 }) only [go_sem, hG, hP, Nat.reduceEqDiff, ↓reduceIte, reduceCtorEq, Nat.reduceAdd, Nat.reduceSub, Nat.reduceMul, Nat.reduceLT, Nat.reduceLeDiff, Int.reduceAdd, Int.reduceSub, Int.reduceMul, Int.reduceLT, Int.reduceLE, Int.reduceEq, Int.reduceNeg, Int.reduceNe, Int.reduceGE, Int.reduceGT, Nat.reduceBEq, Int.reduceToNat,  spSzFb_f, spSzFb_t, spSzFb_k, spToFb_f, spToFb_t, spToFb_k, spRel_f, spRel_t, spRel_k, spEqFb_f, spEqFb_t, spEqFb_k, spMarkFb_f, spMarkFb_t, spMarkFb_k, spHeldFb_f, spHeldFb_t, spHeldFb_k, hl, takeA4_eq, bb_self, take_pm, pathMarks_len, held_pm]
    repeat (refine And.intro (by first | omega | (simp; done) | (simp; omega) | (unfold appRoom; omega)) ?_)
    refine ⟨fun hs => ⟨_, _, _, ?_, h⟩, fun hs => ?_⟩
    · simp (config := { maxSteps := 2000000 }) only [go_sem, hG, hP, Nat.reduceEqDiff, ↓reduceIte, reduceCtorEq, Nat.reduceAdd, Nat.reduceSub, Nat.reduceMul, Nat.reduceLT, Nat.reduceLeDiff, Int.reduceAdd, Int.reduceSub, Int.reduceMul, Int.reduceLT, Int.reduceLE, Int.reduceEq, Int.reduceNeg, Int.reduceNe, Int.reduceGE, Int.reduceGT, Nat.reduceBEq, Int.reduceToNat]
    have hz := szStep_len (by omega) hs
    repeat' (first | (refine And.intro ?_ ?_) | (with_reducible intro _))
    all_goals first | omega | (refine ⟨_, _, _, ?_, h⟩; simp (config := { maxSteps := 2000000 }) only [go_sem, hG, hP, Nat.reduceEqDiff, ↓reduceIte, reduceCtorEq, Nat.reduceAdd, Nat.reduceSub, Nat.reduceMul, Nat.reduceLT, Nat.reduceLeDiff, Int.reduceAdd, Int.reduceSub, Int.reduceMul, Int.reduceLT, Int.reduceLE, Int.reduceEq, Int.reduceNeg, Int.reduceNe, Int.reduceGE, Int.reduceGT, Nat.reduceBEq, Int.reduceToNat]; all_goals (first | (simp; done) | omega))
  · exact h.elim
end Go.Proofs.YtgmcijagaielaaaE

/-! The code of a function, in the engine's words. -/
namespace Go.Proofs.YtgmcijagaielaaaE
open Go Go.RowKit
@[reducible] def ic46 : IC := (.seq (.ops [⟨some 3, .box (.tmp 0), none⟩, ⟨some 6, .mov (.const (.int .i64 0)), none⟩]) (.seq (.seq (.ops [⟨some 8, .fadr 2 (.tmp 3), none⟩, ⟨some 9, .load 1 false (.tmp 8), none⟩, ⟨some 10, .mov (.const (.int .i64 0)), none⟩]) (.block 0 (.loop (.seq (.ops [⟨some 11, .bin .lss (.tmp 10) (.tmp 9), none⟩]) (.seq (.cond (.tmp 11) .skip (.exit 0)) (.seq (.block 1 (.seq (.ops [⟨some 12, .mov (.tmp 10), none⟩, ⟨some 7, .mov (.tmp 12), none⟩]) (.seq (.ops [⟨some 13, .mov (.tmp 1), none⟩, ⟨some 14, .bin .lss (.tmp 13) (.const (.int .i64 0)), none⟩, ⟨some 15, .mov (.tmp 14), none⟩, ⟨some 16, .load 4 true (.tmp 3), some (15, false)⟩, ⟨some 17, .mov (.tmp 1), some (15, false)⟩, ⟨some 18, .mov (.tmp 7), some (15, false)⟩, ⟨some 19, .call 52 [(.tmp 16), (.const (.bool false)), (.tmp 17), (.tmp 18)], some (15, false)⟩, ⟨some 20, .bin .lss (.tmp 19) (.const (.int .i64 0)), some (15, false)⟩, ⟨some 21, .pick (.tmp 15) (.const (.bool true)) (.tmp 20), none⟩, ⟨some 22, .mov (.tmp 21), none⟩, ⟨some 23, .mov (.tmp 2), some (22, true)⟩, ⟨some 24, .bin .lss (.tmp 23) (.const (.int .i64 0)), some (22, true)⟩, ⟨some 25, .mov (.tmp 24), some (22, true)⟩, ⟨some 26, .load 4 true (.tmp 3), some (25, false)⟩, ⟨some 27, .mov (.tmp 2), some (25, false)⟩, ⟨some 28, .mov (.tmp 7), some (25, false)⟩, ⟨some 29, .call 52 [(.tmp 26), (.const (.bool true)), (.tmp 27), (.tmp 28)], some (25, false)⟩, ⟨some 30, .bin .lss (.tmp 29) (.const (.int .i64 0)), some (25, false)⟩, ⟨some 31, .pick (.tmp 25) (.const (.bool true)) (.tmp 30), some (22, true)⟩, ⟨some 32, .pick (.tmp 22) (.tmp 31) (.const (.bool false)), none⟩]) (.cond (.tmp 32) (.seq (.ops [⟨some 33, .mov (.tmp 7), none⟩, ⟨some 6, .mov (.tmp 33), none⟩]) .ret) .skip)))) (.ops [⟨some 34, .bin .add (.tmp 10) (.const (.int .i64 1)), none⟩, ⟨some 10, .mov (.tmp 34), none⟩]))))))) (.seq (.ops [⟨some 6, .mov (.const (.int .i64 (-1))), none⟩]) .ret)))
@[reducible] def rv46 : List RV := [.tmp 6]
theorem low46 : lowC Try.prog tau Try.f46.ntmps (Try.f46.body.getD .skip) = some (erase ic46) := by kernel_rfl
theorem res46 : lowR Try.prog Try.f46.results.toList = some rv46 := by kernel_rfl
theorem bod46 : Try.f46.body = some (Try.f46.body.getD .skip) := by kernel_rfl
theorem cal46 : callable Try.prog 46 = true := by kernel_rfl

end Go.Proofs.YtgmcijagaielaaaE

/-! The code of a function, in the engine's words. -/
namespace Go.Proofs.YtgmcijagaielaaaE
open Go Go.RowKit
@[reducible] def ic18 : IC := (.seq (.ops [⟨some 1, .box (.tmp 0), none⟩, ⟨some 2, .mov (.const (.slice none 0 0)), none⟩]) (.seq (.ops [⟨some 12, .blds .path 0 [], none⟩, ⟨some 3, .mov (.tmp 12), none⟩]) (.seq (.seq (.ops [⟨some 13, .load 4 true (.tmp 1), none⟩, ⟨some 14, .call 10 [(.tmp 13)], none⟩, ⟨some 15, .una .not (.tmp 14), none⟩]) (.cond (.tmp 15) (.seq (.ops [⟨some 16, .mov (.tmp 3), none⟩, ⟨some 2, .mov (.tmp 16), none⟩]) .ret) .skip)) (.seq (.ops [⟨some 17, .fadr 0 (.tmp 1), none⟩, ⟨some 18, .load 1 false (.tmp 17), none⟩, ⟨some 19, .fadr 1 (.tmp 1), none⟩, ⟨some 20, .load 1 false (.tmp 19), none⟩, ⟨some 21, .bin .mul (.tmp 18) (.tmp 20), none⟩, ⟨some 4, .mov (.tmp 21), none⟩]) (.seq (.draw [⟨some 22, .mov (.tmp 4), none⟩, ⟨some 23, .mk .bool 1 (.tmp 22) (.tmp 22), none⟩, ⟨some 24, .mov (.tmp 4), none⟩, ⟨some 25, .mk .bool 1 (.tmp 24) (.tmp 24), none⟩, ⟨some 5, .mov (.tmp 23), none⟩, ⟨some 6, .mov (.tmp 25), none⟩] (.held ⟨some 22, .mov (.tmp 4), none⟩ (.held ⟨some 24, .mov (.tmp 4), none⟩ (.alt ⟨some 23, .mk .bool 1 (.tmp 22) (.tmp 22), none⟩ (.held ⟨some 5, .mov (.tmp 23), none⟩ (.alt ⟨some 25, .mk .bool 1 (.tmp 24) (.tmp 24), none⟩ (.held ⟨some 6, .mov (.tmp 25), none⟩ .done) .stop)) (.alt ⟨some 25, .mk .bool 1 (.tmp 24) (.tmp 24), none⟩ (.alt ⟨some 23, .mk .bool 1 (.tmp 22) (.tmp 22), none⟩ (.held ⟨some 5, .mov (.tmp 23), none⟩ (.held ⟨some 6, .mov (.tmp 25), none⟩ .done)) .stop) .stop))))) (.seq (.seq (.ops [⟨some 7, .mov (.const (.int .i64 0)), none⟩]) (.block 0 (.loop (.seq (.seq (.ops [⟨some 26, .mov (.tmp 7), none⟩, ⟨some 27, .fadr 3 (.tmp 1), none⟩, ⟨some 28, .load 1 false (.tmp 27), none⟩, ⟨some 29, .len (.tmp 28), none⟩, ⟨some 30, .bin .lss (.tmp 26) (.tmp 29), none⟩]) (.cond (.tmp 30) .skip (.exit 0))) (.seq (.block 1 (.seq (.ops [⟨some 33, .mov (.tmp 5), none⟩, ⟨some 34, .fadr 3 (.tmp 1), none⟩, ⟨some 35, .load 1 false (.tmp 34), none⟩, ⟨some 36, .mov (.tmp 7), none⟩, ⟨some 37, .iadr 3 (.tmp 35) (.tmp 36), none⟩, ⟨some 38, .fadr 0 (.tmp 37), none⟩, ⟨some 39, .load 1 false (.tmp 38), none⟩, ⟨some 40, .iadr 1 (.tmp 33) (.tmp 39), none⟩, ⟨none, .store 1 (.tmp 40) (.const (.bool true)), none⟩]) (.ops [⟨some 41, .mov (.tmp 6), none⟩, ⟨some 42, .fadr 3 (.tmp 1), none⟩, ⟨some 43, .load 1 false (.tmp 42), none⟩, ⟨some 44, .mov (.tmp 7), none⟩, ⟨some 45, .iadr 3 (.tmp 43) (.tmp 44), none⟩, ⟨some 46, .fadr 1 (.tmp 45), none⟩, ⟨some 47, .load 1 false (.tmp 46), none⟩, ⟨some 48, .iadr 1 (.tmp 41) (.tmp 47), none⟩, ⟨none, .store 1 (.tmp 48) (.const (.bool true)), none⟩]))) (.ops [⟨some 31, .mov (.tmp 7), none⟩, ⟨some 32, .bin .add (.tmp 31) (.const (.int .i64 1)), none⟩, ⟨some 7, .mov (.tmp 32), none⟩])))))) (.seq (.seq (.ops [⟨some 8, .mov (.const (.int .i64 0)), none⟩]) (.block 2 (.loop (.seq (.seq (.ops [⟨some 49, .mov (.tmp 8), none⟩, ⟨some 50, .mov (.tmp 4), none⟩, ⟨some 51, .bin .lss (.tmp 49) (.tmp 50), none⟩]) (.cond (.tmp 51) .skip (.exit 2))) (.seq (.block 3 (.seq (.ops [⟨some 9, .mov (.const (.int .i64 0)), none⟩]) (.block 4 (.loop (.seq (.seq (.ops [⟨some 54, .mov (.tmp 9), none⟩, ⟨some 55, .mov (.tmp 4), none⟩, ⟨some 56, .bin .lss (.tmp 54) (.tmp 55), none⟩]) (.cond (.tmp 56) .skip (.exit 4))) (.seq (.block 5 (.seq (.ops [⟨some 59, .mov (.tmp 5), none⟩, ⟨some 60, .mov (.tmp 8), none⟩, ⟨some 61, .iadr 1 (.tmp 59) (.tmp 60), none⟩, ⟨some 62, .load 1 false (.tmp 61), none⟩, ⟨some 63, .mov (.tmp 62), none⟩, ⟨some 64, .mov (.tmp 6), some (63, false)⟩, ⟨some 65, .mov (.tmp 9), some (63, false)⟩, ⟨some 66, .iadr 1 (.tmp 64) (.tmp 65), some (63, false)⟩, ⟨some 67, .load 1 false (.tmp 66), some (63, false)⟩, ⟨some 68, .pick (.tmp 63) (.const (.bool true)) (.tmp 67), none⟩, ⟨some 10, .mov (.tmp 68), none⟩]) (.seq (.seq (.ops [⟨some 11, .mov (.const (.int .i64 0)), none⟩]) (.block 6 (.loop (.seq (.seq (.ops [⟨some 69, .mov (.tmp 11), none⟩, ⟨some 70, .fadr 2 (.tmp 1), none⟩, ⟨some 71, .load 1 false (.tmp 70), none⟩, ⟨some 72, .bin .lss (.tmp 69) (.tmp 71), none⟩, ⟨some 73, .mov (.tmp 72), none⟩, ⟨some 74, .mov (.tmp 10), some (73, true)⟩, ⟨some 75, .una .not (.tmp 74), some (73, true)⟩, ⟨some 76, .pick (.tmp 73) (.tmp 75) (.const (.bool false)), none⟩]) (.cond (.tmp 76) .skip (.exit 6))) (.seq (.block 7 (.draw [⟨some 79, .load 4 true (.tmp 1), none⟩, ⟨some 80, .mov (.tmp 8), none⟩, ⟨some 81, .fadr 1 (.tmp 1), none⟩, ⟨some 82, .load 1 false (.tmp 81), none⟩, ⟨some 83, .bin .quo (.tmp 80) (.tmp 82), none⟩, ⟨some 84, .mov (.tmp 11), none⟩, ⟨some 85, .call 44 [(.tmp 79), (.tmp 83), (.tmp 84)], none⟩, ⟨some 86, .bin .lss (.tmp 85) (.const (.int .i64 0)), none⟩, ⟨some 87, .mov (.tmp 86), none⟩, ⟨some 88, .load 4 true (.tmp 1), some (87, true)⟩, ⟨some 89, .mov (.tmp 9), some (87, true)⟩, ⟨some 90, .fadr 1 (.tmp 1), some (87, true)⟩, ⟨some 91, .load 1 false (.tmp 90), some (87, true)⟩, ⟨some 92, .bin .quo (.tmp 89) (.tmp 91), some (87, true)⟩, ⟨some 93, .mov (.tmp 11), some (87, true)⟩, ⟨some 94, .call 45 [(.tmp 88), (.tmp 92), (.tmp 93)], some (87, true)⟩, ⟨some 95, .bin .lss (.tmp 94) (.const (.int .i64 0)), some (87, true)⟩, ⟨some 96, .pick (.tmp 87) (.tmp 95) (.const (.bool false)), none⟩, ⟨some 10, .mov (.tmp 96), none⟩] (.held ⟨some 79, .load 4 true (.tmp 1), none⟩ (.held ⟨some 80, .mov (.tmp 8), none⟩ (.held ⟨some 81, .fadr 1 (.tmp 1), none⟩ (.held ⟨some 82, .load 1 false (.tmp 81), none⟩ (.held ⟨some 83, .bin .quo (.tmp 80) (.tmp 82), none⟩ (.held ⟨some 84, .mov (.tmp 11), none⟩ (.alt ⟨some 85, .call 44 [(.tmp 79), (.tmp 83), (.tmp 84)], none⟩ (.held ⟨some 86, .bin .lss (.tmp 85) (.const (.int .i64 0)), none⟩ (.held ⟨some 87, .mov (.tmp 86), none⟩ (.held ⟨some 88, .load 4 true (.tmp 1), some (87, true)⟩ (.held ⟨some 89, .mov (.tmp 9), some (87, true)⟩ (.held ⟨some 90, .fadr 1 (.tmp 1), some (87, true)⟩ (.held ⟨some 91, .load 1 false (.tmp 90), some (87, true)⟩ (.held ⟨some 92, .bin .quo (.tmp 89) (.tmp 91), some (87, true)⟩ (.held ⟨some 93, .mov (.tmp 11), some (87, true)⟩ (.alt ⟨some 94, .call 45 [(.tmp 88), (.tmp 92), (.tmp 93)], some (87, true)⟩ (.held ⟨some 95, .bin .lss (.tmp 94) (.const (.int .i64 0)), some (87, true)⟩ (.held ⟨some 96, .pick (.tmp 87) (.tmp 95) (.const (.bool false)), none⟩ (.held ⟨some 10, .mov (.tmp 96), none⟩ .done))) .stop))))))))) .stop))))))))) (.ops [⟨some 77, .mov (.tmp 11), none⟩, ⟨some 78, .bin .add (.tmp 77) (.const (.int .i64 1)), none⟩, ⟨some 11, .mov (.tmp 78), none⟩])))))) (.seq (.ops [⟨some 97, .mov (.tmp 10), none⟩, ⟨some 98, .una .not (.tmp 97), none⟩]) (.cond (.tmp 98) (.ops [⟨some 99, .mov (.tmp 3), none⟩, ⟨some 100, .mov (.tmp 8), none⟩, ⟨some 101, .mov (.tmp 9), none⟩, ⟨some 102, .bld [(.int .i64 0), (.int .i64 0), (.int .i64 0)] [(0, 1, (.tmp 100)), (1, 1, (.tmp 101)), (2, 1, (.const (.int .i64 (-1))))], none⟩, ⟨some 103, .blds .path 1 [(0, 3, (.tmp 102))], none⟩, ⟨some 104, .app .path 24 (.tmp 99) (.tmp 103), none⟩, ⟨some 3, .mov (.tmp 104), none⟩]) .skip))))) (.ops [⟨some 57, .mov (.tmp 9), none⟩, ⟨some 58, .bin .add (.tmp 57) (.const (.int .i64 1)), none⟩, ⟨some 9, .mov (.tmp 58), none⟩]))))))) (.ops [⟨some 52, .mov (.tmp 8), none⟩, ⟨some 53, .bin .add (.tmp 52) (.const (.int .i64 1)), none⟩, ⟨some 8, .mov (.tmp 53), none⟩])))))) (.seq (.ops [⟨some 105, .mov (.tmp 3), none⟩, ⟨some 2, .mov (.tmp 105), none⟩]) .ret))))))))
@[reducible] def rv18 : List RV := [.tmp 2]
theorem low18 : lowC Try.prog tau Try.f18.ntmps (Try.f18.body.getD .skip) = some (erase ic18) := by kernel_rfl
theorem res18 : lowR Try.prog Try.f18.results.toList = some rv18 := by kernel_rfl
theorem bod18 : Try.f18.body = some (Try.f18.body.getD .skip) := by kernel_rfl
theorem cal18 : callable Try.prog 18 = true := by kernel_rfl

end Go.Proofs.YtgmcijagaielaaaE

/-! The code of a function, in the engine's words. -/
namespace Go.Proofs.YtgmcijagaielaaaE
open Go Go.RowKit
@[reducible] def ic19 : IC := (.seq (.ops [⟨some 1, .box (.tmp 0), none⟩, ⟨some 2, .mov (.const (.slice none 0 0)), none⟩]) (.seq (.seq (.ops [⟨some 11, .load 4 true (.tmp 1), none⟩, ⟨some 12, .call 12 [(.tmp 11)], none⟩, ⟨some 13, .una .not (.tmp 12), none⟩]) (.cond (.tmp 13) (.seq (.ops [⟨some 2, .mov (.const (.slice none 0 0)), none⟩]) .ret) .skip)) (.seq (.ops [⟨some 3, .mov (.const (.slice none 0 0)), none⟩]) (.seq (.ops [⟨some 14, .fadr 0 (.tmp 1), none⟩, ⟨some 15, .load 1 false (.tmp 14), none⟩, ⟨some 16, .fadr 1 (.tmp 1), none⟩, ⟨some 17, .load 1 false (.tmp 16), none⟩, ⟨some 18, .bin .mul (.tmp 15) (.tmp 17), none⟩, ⟨some 4, .mov (.tmp 18), none⟩]) (.seq (.ops [⟨some 19, .mmk .int false, none⟩, ⟨some 20, .mmk .int false, none⟩, ⟨some 5, .mov (.tmp 19), none⟩, ⟨some 6, .mov (.tmp 20), none⟩]) (.seq (.seq (.ops [⟨some 21, .fadr 3 (.tmp 1), none⟩, ⟨some 22, .load 1 false (.tmp 21), none⟩, ⟨some 23, .len (.tmp 22), none⟩, ⟨some 24, .mov (.const (.int .i64 0)), none⟩]) (.block 0 (.loop (.seq (.ops [⟨some 25, .bin .lss (.tmp 24) (.tmp 23), none⟩]) (.seq (.cond (.tmp 25) .skip (.exit 0)) (.seq (.block 1 (.seq (.ops [⟨some 26, .iadr 3 (.tmp 22) (.tmp 24), none⟩, ⟨some 27, .load 3 true (.tmp 26), none⟩, ⟨some 8, .new [(.int .i64 0), (.int .i64 0), (.int .i64 0)], none⟩, ⟨none, .store 3 (.tmp 8) (.tmp 27), none⟩]) (.draw [⟨some 28, .mov (.tmp 5), none⟩, ⟨some 29, .fadr 0 (.tmp 8), none⟩, ⟨some 30, .load 1 false (.tmp 29), none⟩, ⟨some 31, .mov (.tmp 6), none⟩, ⟨some 32, .fadr 1 (.tmp 8), none⟩, ⟨some 33, .load 1 false (.tmp 32), none⟩, ⟨none, .mput .int false (.tmp 28) (.tmp 30) (.const (.bool true)), none⟩, ⟨none, .mput .int false (.tmp 31) (.tmp 33) (.const (.bool true)), none⟩] (.held ⟨some 28, .mov (.tmp 5), none⟩ (.held ⟨some 29, .fadr 0 (.tmp 8), none⟩ (.held ⟨some 30, .load 1 false (.tmp 29), none⟩ (.held ⟨some 31, .mov (.tmp 6), none⟩ (.held ⟨some 32, .fadr 1 (.tmp 8), none⟩ (.alt ⟨some 33, .load 1 false (.tmp 32), none⟩ (.alt ⟨none, .mput .int false (.tmp 28) (.tmp 30) (.const (.bool true)), none⟩ (.alt ⟨none, .mput .int false (.tmp 31) (.tmp 33) (.const (.bool true)), none⟩ .done .stop) .stop) (.alt ⟨none, .mput .int false (.tmp 28) (.tmp 30) (.const (.bool true)), none⟩ (.held ⟨some 33, .load 1 false (.tmp 32), none⟩ (.alt ⟨none, .mput .int false (.tmp 31) (.tmp 33) (.const (.bool true)), none⟩ .done .stop)) .stop)))))))))) (.ops [⟨some 34, .bin .add (.tmp 24) (.const (.int .i64 1)), none⟩, ⟨some 24, .mov (.tmp 34), none⟩]))))))) (.seq (.seq (.ops [⟨some 35, .mov (.tmp 4), none⟩, ⟨some 36, .mov (.const (.int .i64 0)), none⟩]) (.block 2 (.loop (.seq (.ops [⟨some 37, .bin .lss (.tmp 36) (.tmp 35), none⟩]) (.seq (.cond (.tmp 37) .skip (.exit 2)) (.seq (.block 3 (.seq (.ops [⟨some 38, .mov (.tmp 36), none⟩, ⟨some 9, .mov (.tmp 38), none⟩]) (.seq (.ops [⟨some 39, .mov (.tmp 4), none⟩, ⟨some 40, .mov (.const (.int .i64 0)), none⟩]) (.block 4 (.loop (.seq (.ops [⟨some 41, .bin .lss (.tmp 40) (.tmp 39), none⟩]) (.seq (.cond (.tmp 41) .skip (.exit 4)) (.seq (.block 5 (.seq (.ops [⟨some 42, .mov (.tmp 40), none⟩, ⟨some 10, .mov (.tmp 42), none⟩]) (.seq (.draw [⟨some 43, .mov (.tmp 5), none⟩, ⟨some 44, .mov (.tmp 9), none⟩, ⟨some 45, .mget .int false false (.tmp 43) (.tmp 44), none⟩, ⟨some 46, .una .not (.tmp 45), none⟩, ⟨some 47, .mov (.tmp 46), none⟩, ⟨some 48, .mov (.tmp 6), some (47, true)⟩, ⟨some 49, .mov (.tmp 10), some (47, true)⟩, ⟨some 50, .mget .int false false (.tmp 48) (.tmp 49), some (47, true)⟩, ⟨some 51, .una .not (.tmp 50), some (47, true)⟩, ⟨some 52, .pick (.tmp 47) (.tmp 51) (.const (.bool false)), none⟩, ⟨some 53, .mov (.tmp 52), none⟩, ⟨some 54, .load 4 true (.tmp 1), some (53, true)⟩, ⟨some 55, .mov (.tmp 9), some (53, true)⟩, ⟨some 56, .fadr 1 (.tmp 1), some (53, true)⟩, ⟨some 57, .load 1 false (.tmp 56), some (53, true)⟩, ⟨some 58, .bin .quo (.tmp 55) (.tmp 57), some (53, true)⟩, ⟨some 59, .mov (.tmp 10), some (53, true)⟩, ⟨some 60, .fadr 1 (.tmp 1), some (53, true)⟩, ⟨some 61, .load 1 false (.tmp 60), some (53, true)⟩, ⟨some 62, .bin .quo (.tmp 59) (.tmp 61), some (53, true)⟩, ⟨some 63, .call 46 [(.tmp 54), (.tmp 58), (.tmp 62)], some (53, true)⟩, ⟨some 64, .bin .lss (.tmp 63) (.const (.int .i64 0)), some (53, true)⟩, ⟨some 65, .pick (.tmp 53) (.tmp 64) (.const (.bool false)), none⟩] (.held ⟨some 43, .mov (.tmp 5), none⟩ (.held ⟨some 44, .mov (.tmp 9), none⟩ (.held ⟨some 45, .mget .int false false (.tmp 43) (.tmp 44), none⟩ (.held ⟨some 46, .una .not (.tmp 45), none⟩ (.held ⟨some 47, .mov (.tmp 46), none⟩ (.held ⟨some 48, .mov (.tmp 6), some (47, true)⟩ (.held ⟨some 49, .mov (.tmp 10), some (47, true)⟩ (.held ⟨some 50, .mget .int false false (.tmp 48) (.tmp 49), some (47, true)⟩ (.held ⟨some 51, .una .not (.tmp 50), some (47, true)⟩ (.held ⟨some 52, .pick (.tmp 47) (.tmp 51) (.const (.bool false)), none⟩ (.held ⟨some 53, .mov (.tmp 52), none⟩ (.held ⟨some 54, .load 4 true (.tmp 1), some (53, true)⟩ (.held ⟨some 55, .mov (.tmp 9), some (53, true)⟩ (.held ⟨some 56, .fadr 1 (.tmp 1), some (53, true)⟩ (.held ⟨some 57, .load 1 false (.tmp 56), some (53, true)⟩ (.held ⟨some 58, .bin .quo (.tmp 55) (.tmp 57), some (53, true)⟩ (.held ⟨some 59, .mov (.tmp 10), some (53, true)⟩ (.held ⟨some 60, .fadr 1 (.tmp 1), some (53, true)⟩ (.held ⟨some 61, .load 1 false (.tmp 60), some (53, true)⟩ (.held ⟨some 62, .bin .quo (.tmp 59) (.tmp 61), some (53, true)⟩ (.alt ⟨some 63, .call 46 [(.tmp 54), (.tmp 58), (.tmp 62)], some (53, true)⟩ (.held ⟨some 64, .bin .lss (.tmp 63) (.const (.int .i64 0)), some (53, true)⟩ (.held ⟨some 65, .pick (.tmp 53) (.tmp 64) (.const (.bool false)), none⟩ .done)) .stop)))))))))))))))))))))) (.cond (.tmp 65) (.ops [⟨some 66, .mov (.tmp 3), none⟩, ⟨some 67, .mov (.tmp 9), none⟩, ⟨some 68, .mov (.tmp 10), none⟩, ⟨some 69, .bld [(.int .i64 0), (.int .i64 0), (.int .i64 0)] [(0, 1, (.tmp 67)), (1, 1, (.tmp 68)), (2, 1, (.const (.int .i64 (-1))))], none⟩, ⟨some 70, .blds .path 1 [(0, 3, (.tmp 69))], none⟩, ⟨some 71, .app .path 24 (.tmp 66) (.tmp 70), none⟩, ⟨some 3, .mov (.tmp 71), none⟩]) .skip)))) (.ops [⟨some 72, .bin .add (.tmp 40) (.const (.int .i64 1)), none⟩, ⟨some 40, .mov (.tmp 72), none⟩]))))))))) (.ops [⟨some 73, .bin .add (.tmp 36) (.const (.int .i64 1)), none⟩, ⟨some 36, .mov (.tmp 73), none⟩]))))))) (.seq (.ops [⟨some 74, .mov (.tmp 3), none⟩, ⟨some 2, .mov (.tmp 74), none⟩]) .ret))))))))
@[reducible] def rv19 : List RV := [.tmp 2]
theorem low19 : lowC Try.prog tau Try.f19.ntmps (Try.f19.body.getD .skip) = some (erase ic19) := by kernel_rfl
theorem res19 : lowR Try.prog Try.f19.results.toList = some rv19 := by kernel_rfl
theorem bod19 : Try.f19.body = some (Try.f19.body.getD .skip) := by kernel_rfl
theorem cal19 : callable Try.prog 19 = true := by kernel_rfl

end Go.Proofs.YtgmcijagaielaaaE

/-! The code of a function, in the engine's words. -/
namespace Go.Proofs.YtgmcijagaielaaaE
open Go Go.RowKit
@[reducible] def ic5 : IC := (.seq (.ops [⟨some 1, .box (.tmp 0), none⟩, ⟨some 2, .mov (.const (.bool false)), none⟩]) (.seq (.ops [⟨some 3, .mov (.const (.int .i64 1048576)), none⟩]) (.seq (.ops [⟨some 11, .load 4 true (.tmp 1), none⟩, ⟨some 12, .mov (.tmp 3), none⟩, ⟨some 13, .call 9 [(.tmp 11), (.tmp 12)], none⟩, ⟨some 3, .mov (.tmp 13), none⟩]) (.seq (.seq (.ops [⟨some 14, .mov (.tmp 3), none⟩, ⟨some 15, .bin .lss (.tmp 14) (.const (.int .i64 0)), none⟩]) (.cond (.tmp 15) (.seq (.ops [⟨some 2, .mov (.const (.bool true)), none⟩]) .ret) .skip)) (.seq (.ops [⟨some 16, .load 4 true (.tmp 1), none⟩, ⟨some 17, .call 11 [(.tmp 16)], none⟩, ⟨some 18, .call 18 [(.tmp 17)], none⟩, ⟨some 4, .mov (.tmp 18), none⟩]) (.seq (.ops [⟨some 19, .load 4 true (.tmp 1), none⟩, ⟨some 20, .call 11 [(.tmp 19)], none⟩, ⟨some 5, .new [(.int .i64 0), (.int .i64 0), (.int .i64 0), (.slice none 0 0)], none⟩, ⟨none, .store 4 (.tmp 5) (.tmp 20), none⟩]) (.seq (.ops [⟨some 21, .load 4 true (.tmp 5), none⟩, ⟨some 22, .call 19 [(.tmp 21)], none⟩, ⟨some 6, .mov (.tmp 22), none⟩]) (.seq (.seq (.ops [⟨some 23, .mov (.tmp 6), none⟩, ⟨some 24, .mov (.tmp 4), none⟩, ⟨some 25, .call 20 [(.tmp 23), (.tmp 24)], none⟩, ⟨some 26, .una .not (.tmp 25), none⟩]) (.cond (.tmp 26) (.seq (.ops [⟨some 2, .mov (.const (.bool false)), none⟩]) .ret) .skip)) (.seq (.seq (.draw [⟨some 27, .load 4 true (.tmp 5), none⟩, ⟨some 28, .load 4 true (.tmp 1), none⟩, ⟨some 29, .call 11 [(.tmp 28)], none⟩, ⟨some 30, .call 13 [(.tmp 27), (.tmp 29)], none⟩, ⟨some 31, .una .not (.tmp 30), none⟩] (.held ⟨some 27, .load 4 true (.tmp 5), none⟩ (.held ⟨some 28, .load 4 true (.tmp 1), none⟩ (.alt ⟨some 29, .call 11 [(.tmp 28)], none⟩ (.alt ⟨some 30, .call 13 [(.tmp 27), (.tmp 29)], none⟩ (.held ⟨some 31, .una .not (.tmp 30), none⟩ .done) .stop) .stop)))) (.cond (.tmp 31) (.seq (.ops [⟨some 2, .mov (.const (.bool false)), none⟩]) .ret) .skip)) (.seq (.ops [⟨some 7, .mov (.const (.int .i64 1)), none⟩]) (.seq (.ops [⟨some 32, .load 4 true (.tmp 5), none⟩, ⟨some 33, .mov (.tmp 7), none⟩, ⟨some 34, .call 16 [(.tmp 32), (.tmp 33)], none⟩, ⟨some 7, .mov (.tmp 34), none⟩]) (.seq (.seq (.ops [⟨some 35, .mov (.tmp 7), none⟩, ⟨some 36, .bin .lss (.tmp 35) (.const (.int .i64 0)), none⟩, ⟨some 37, .mov (.tmp 36), none⟩, ⟨some 38, .mov (.tmp 6), some (37, false)⟩, ⟨some 39, .mov (.tmp 4), some (37, false)⟩, ⟨some 40, .call 20 [(.tmp 38), (.tmp 39)], some (37, false)⟩, ⟨some 41, .una .not (.tmp 40), some (37, false)⟩, ⟨some 42, .pick (.tmp 37) (.const (.bool true)) (.tmp 41), none⟩]) (.cond (.tmp 42) (.seq (.ops [⟨some 2, .mov (.const (.bool false)), none⟩]) .ret) .skip)) (.seq (.ops [⟨some 8, .mov (.const (.int .i64 1)), none⟩]) (.seq (.ops [⟨some 43, .mov (.tmp 6), none⟩, ⟨some 44, .mov (.tmp 8), none⟩, ⟨some 45, .call 21 [(.tmp 43), (.tmp 44)], none⟩, ⟨some 8, .mov (.tmp 45), none⟩]) (.seq (.ops [⟨some 9, .mov (.const (.int .i64 1)), none⟩]) (.seq (.ops [⟨some 46, .mov (.tmp 6), none⟩, ⟨some 47, .mov (.tmp 9), none⟩, ⟨some 48, .call 22 [(.tmp 46), (.tmp 47)], none⟩, ⟨some 9, .mov (.tmp 48), none⟩]) (.seq (.seq (.ops [⟨some 49, .mov (.tmp 9), none⟩, ⟨some 50, .bin .lss (.tmp 49) (.const (.int .i64 0)), none⟩]) (.cond (.tmp 50) (.seq (.ops [⟨some 2, .mov (.const (.bool false)), none⟩]) .ret) .skip)) (.seq (.seq (.ops [⟨some 51, .mov (.tmp 9), none⟩, ⟨some 52, .mov (.tmp 8), none⟩, ⟨some 53, .bin .neq (.tmp 51) (.tmp 52), none⟩]) (.cond (.tmp 53) (.seq (.ops [⟨some 2, .mov (.const (.bool false)), none⟩]) .ret) .skip)) (.seq (.ops [⟨some 54, .load 4 true (.tmp 1), none⟩, ⟨some 55, .call 11 [(.tmp 54)], none⟩, ⟨some 56, .call 19 [(.tmp 55)], none⟩, ⟨some 10, .mov (.tmp 56), none⟩]) (.seq (.seq (.ops [⟨some 57, .mov (.tmp 10), none⟩, ⟨some 58, .mov (.tmp 4), none⟩, ⟨some 59, .call 20 [(.tmp 57), (.tmp 58)], none⟩, ⟨some 60, .una .not (.tmp 59), none⟩]) (.cond (.tmp 60) (.seq (.ops [⟨some 2, .mov (.const (.bool false)), none⟩]) .ret) .skip)) (.seq (.ops [⟨some 9, .mov (.const (.int .i64 1)), none⟩]) (.seq (.ops [⟨some 61, .mov (.tmp 6), none⟩, ⟨some 62, .mov (.tmp 9), none⟩, ⟨some 63, .call 22 [(.tmp 61), (.tmp 62)], none⟩, ⟨some 9, .mov (.tmp 63), none⟩]) (.seq (.seq (.ops [⟨some 64, .mov (.tmp 9), none⟩, ⟨some 65, .bin .lss (.tmp 64) (.const (.int .i64 0)), none⟩]) (.cond (.tmp 65) (.seq (.ops [⟨some 2, .mov (.const (.bool false)), none⟩]) .ret) .skip)) (.seq (.seq (.ops [⟨some 66, .mov (.tmp 9), none⟩, ⟨some 67, .mov (.tmp 8), none⟩, ⟨some 68, .bin .neq (.tmp 66) (.tmp 67), none⟩]) (.cond (.tmp 68) (.seq (.ops [⟨some 2, .mov (.const (.bool false)), none⟩]) .ret) .skip)) (.seq (.ops [⟨some 2, .mov (.const (.bool true)), none⟩]) .ret)))))))))))))))))))))))))
@[reducible] def rv5 : List RV := [.tmp 2]
theorem low5 : lowC Try.prog tau Try.f5.ntmps (Try.f5.body.getD .skip) = some (erase ic5) := by kernel_rfl
theorem res5 : lowR Try.prog Try.f5.results.toList = some rv5 := by kernel_rfl
theorem bod5 : Try.f5.body = some (Try.f5.body.getD .skip) := by kernel_rfl
theorem cal5 : callable Try.prog 5 = true := by kernel_rfl

end Go.Proofs.YtgmcijagaielaaaE

/-! The pairs that need moves. -/
namespace Go.Proofs.YtgmcijagaielaaaE
open Go Go.RowKit
set_option linter.unusedSimpArgs false
set_option linter.unusedVariables false
set_option maxRecDepth 20000
set_option maxHeartbeats 4000000

/-- The least number below n of which P is true; -1: there is none. -/
def leastI (P : Nat → Bool) : Nat → Int
  | 0 => -1
  | n + 1 => if 0 ≤ leastI P n then leastI P n else if P n = true then (n : Int) else -1
theorem least_none {P : Nat → Bool} : ∀ {n : Nat}, (∀ i, i < n → P i = false) → leastI P n = -1
  | 0, _ => rfl
  | n + 1, h => by
    have ih := least_none (n := n) (fun i hi => h i (by omega))
    unfold leastI; rw [ih, if_neg (by omega), if_neg (by rw [h n (by omega)]; simp)]
theorem least_hit {P : Nat → Bool} {j : Nat} (hpre : ∀ i, i < j → P i = false) (h : P j = true) : ∀ {n : Nat}, j < n → leastI P n = j
  | 0, hj => by omega
  | n + 1, hj => by
    unfold leastI
    by_cases e : j = n
    · subst e; rw [least_none hpre, if_neg (by omega), if_pos h]
    · have ih := least_hit hpre h (n := n) (by omega)
      rw [ih, if_pos (by omega)]
theorem least_is {P : Nat → Bool} : ∀ {n : Nat}, 0 ≤ leastI P n → ∃ j : Nat, j < n ∧ leastI P n = j ∧ P j = true ∧ ∀ i, i < j → P i = false
  | 0, h => by simp [leastI] at h
  | n + 1, h => by
    unfold leastI at h ⊢
    split at h
    · rename_i h0
      obtain ⟨j, h1, h2, h3, h4⟩ := least_is h0
      exact ⟨j, by omega, by rw [if_pos h0]; exact h2, h3, h4⟩
    · rename_i h0
      split at h
      · rename_i h1
        refine ⟨n, by omega, by rw [if_neg h0, if_pos h1], h1, fun i hi => ?_⟩
        cases hP : P i with
        | false => rfl
        | true =>
          exfalso
          -- the least one is at or ahead of i
          have : ∀ m, i < m → 0 ≤ leastI P m := by
            intro m
            induction m with
            | zero => intro h; omega
            | succ m ih =>
              intro hm
              unfold leastI
              by_cases e : i = m
              · subst e; split
                · assumption
                · first | omega | (rw [if_pos hP]; omega)
              · rw [if_pos (ih (by omega))]; exact ih (by omega)
          exact h0 (this n hi)
      · omega
theorem least_no {P : Nat → Bool} {n : Nat} (h : leastI P n < 0) : ∀ i, i < n → P i = false := by
  induction n with
  | zero => intro i hi; omega
  | succ n ih =>
    unfold leastI at h
    split at h
    · omega
    · rename_i h0
      split at h
      · omega
      · rename_i h1
        intro i hi
        by_cases e : i = n
        · subst e; simpa using h1
        · exact ih (by omega) i (by omega)
theorem least_bd (P : Nat → Bool) (n : Nat) : -1 ≤ leastI P n ∧ leastI P n < n := by
  by_cases h : 0 ≤ leastI P n
  · obtain ⟨j, h1, h2, _⟩ := least_is h; omega
  · have h2 := least_none (least_no (P := P) (n := n) (by omega)); omega
def freeP (p : Int) (q : List Pth) (i o : Int) (k : Nat) : Bool := (decide (i < 0) || decide (fidx (atP p false i k) q < 0)) && (decide (o < 0) || decide (fidx (atP p true o k) q < 0))
theorem freeP_t {p i o : Int} {q : List Pth} {k : Nat} (h1 : i < 0 ∨ fidx (atP p false i k) q < 0) (h2 : o < 0 ∨ fidx (atP p true o k) q < 0) : freeP p q i o k = true := by
  unfold freeP; simpa using And.intro h1 h2
theorem freeP_f {p i o : Int} {q : List Pth} {k : Nat} (h : ¬ ((i < 0 ∨ fidx (atP p false i k) q < 0) ∧ (o < 0 ∨ fidx (atP p true o k) q < 0))) : freeP p q i o k = false := by
  rw [Bool.eq_false_iff]; intro e; apply h; unfold freeP at e; simpa using e
def spFree : Spec := ⟨fun _ _ => [], fun args objs K => match args, objs with
  | [.agg [.v (.int .i64 s), .v (.int .i64 p), .v (.int .i64 m), .rs .path q], .v (.int .i64 i), .v (.int .i64 o)], [] =>
      (q.length ≤ 1099511627776 ∧ 1 ≤ p ∧ (0 ≤ m ∧ m ≤ 12) ∧ allSmall q) ∧ K (.v (.int .i64 (leastI (freeP p q i o) m.toNat))) [] 0
  | _, _ => False, false⟩
theorem spFree_t {L : Hp} {a : List AVal} : Spec.take spFree L a = [] := id rfl
theorem spFree_k : Spec.keep spFree = false := id rfl
theorem spFree_f {s} {p} {m} {q} {i} {o} {K : AVal → Hp → Nat → Prop} : Spec.f spFree ([.agg [.v (.int .i64 s), .v (.int .i64 p), .v (.int .i64 m), .rs .path q], .v (.int .i64 i), .v (.int .i64 o)]) ([]) K = ((q.length ≤ 1099511627776 ∧ 1 ≤ p ∧ (0 ≤ m ∧ m ≤ 12) ∧ allSmall q) ∧ K (.v (.int .i64 (leastI (freeP p q i o) m.toNat))) [] 0) := id rfl
theorem valid46 : Valid Try.prog 46 spFree := by
  refine validI (Γ := lk [(52, spAtI)]) Try.func46 bod46 low46 res46 (good_of ⟨⟨cal52, valid52⟩, trivial⟩) ?_
  intro E args objs K h hE hG hP
  simp only [spFree] at h
  split at h
  · refine ⟨by simp [Try.ntmps46], ?_⟩
    rename_i s p m q i o
    obtain ⟨⟨b1, hp, hm, hsm⟩, h⟩ := h
    simp (config := { maxSteps := 2000000 }) only [go_sem, hG, hP, Nat.reduceEqDiff, ↓reduceIte, reduceCtorEq, Nat.reduceAdd, Nat.reduceSub, Nat.reduceMul, Nat.reduceLT, Nat.reduceLeDiff, Int.reduceAdd, Int.reduceSub, Int.reduceMul, Int.reduceLT, Int.reduceLE, Int.reduceEq, Int.reduceNeg, Int.reduceNe, Int.reduceGE, Int.reduceGT, Nat.reduceBEq, Int.reduceToNat]
    refine loopI hE (fun k : Nat => ⟨[(1, .v (.int .i64 i)), (2, .v (.int .i64 o)), (3, .ptr 0 0), (9, .v (.int .i64 m)), (10, .v (.int .i64 k))], [(0, .box [.v (.int .i64 s), .v (.int .i64 p), .v (.int .i64 m), .rs .path q])], 1, Try.f46.ntmps⟩) (fun k => (k : Int) ≤ m ∧ ∀ j, j < k → freeP p q i o j = false) (fun k => m.toNat - k) ⟨0, ⟨hm.1, fun i hi => absurd hi (Nat.not_lt_zero _)⟩, SubS.weak ?_⟩ ?_
    · simp (config := { maxSteps := 2000000 }) only [go_sem, hG, hP, Nat.reduceEqDiff, ↓reduceIte, reduceCtorEq, Nat.reduceAdd, Nat.reduceSub, Nat.reduceMul, Nat.reduceLT, Nat.reduceLeDiff, Int.reduceAdd, Int.reduceSub, Int.reduceMul, Int.reduceLT, Int.reduceLE, Int.reduceEq, Int.reduceNeg, Int.reduceNe, Int.reduceGE, Int.reduceGT, Nat.reduceBEq, Int.reduceToNat]
      repeat' (first | with_reducible rfl | (refine And.intro ?_ ?_) | (refine congrArg (Value.int _) ?_; omega) | omega)
    · intro k ⟨hk, hpre⟩
      by_cases hlt : (k : Int) < m
      · have e0 : ((k : Int) < m) = True := eq_true hlt
        simp (config := { maxSteps := 2000000 }) only [go_sem, hG, hP, Nat.reduceEqDiff, ↓reduceIte, reduceCtorEq, Nat.reduceAdd, Nat.reduceSub, Nat.reduceMul, Nat.reduceLT, Nat.reduceLeDiff, Int.reduceAdd, Int.reduceSub, Int.reduceMul, Int.reduceLT, Int.reduceLE, Int.reduceEq, Int.reduceNeg, Int.reduceNe, Int.reduceGE, Int.reduceGT, Nat.reduceBEq, Int.reduceToNat,  spAtI_f, spAtI_t, spAtI_k, e0]
        (try simp (disch := omega) only [wrap_id])
        repeat' (first | (refine And.intro ?_ ?_) | (with_reducible intro _))
        all_goals first
          | assumption
          | omega
          | (rw [least_hit hpre (freeP_t (by omega) (by omega)) (by omega)] at h; refine ⟨_, _, _, ?_, h⟩; simp (config := { maxSteps := 2000000 }) only [go_sem, hG, hP, Nat.reduceEqDiff, ↓reduceIte, reduceCtorEq, Nat.reduceAdd, Nat.reduceSub, Nat.reduceMul, Nat.reduceLT, Nat.reduceLeDiff, Int.reduceAdd, Int.reduceSub, Int.reduceMul, Int.reduceLT, Int.reduceLE, Int.reduceEq, Int.reduceNeg, Int.reduceNe, Int.reduceGE, Int.reduceGT, Nat.reduceBEq, Int.reduceToNat]; done)
          | (refine ⟨k + 1, ⟨⟨by omega, upto_succ hpre (freeP_f (by omega))⟩, by omega⟩, SubS.weak ?_⟩; simp (config := { maxSteps := 2000000 }) only [go_sem, hG, hP, Nat.reduceEqDiff, ↓reduceIte, reduceCtorEq, Nat.reduceAdd, Nat.reduceSub, Nat.reduceMul, Nat.reduceLT, Nat.reduceLeDiff, Int.reduceAdd, Int.reduceSub, Int.reduceMul, Int.reduceLT, Int.reduceLE, Int.reduceEq, Int.reduceNeg, Int.reduceNe, Int.reduceGE, Int.reduceGT, Nat.reduceBEq, Int.reduceToNat]; repeat' (first | with_reducible rfl | (refine And.intro ?_ ?_) | (refine congrArg (Value.int _) ?_; omega) | omega))
      · have e0 : ((k : Int) < m) = False := eq_false hlt
        have hk2 : k = m.toNat := by omega
        subst hk2
        rw [least_none hpre] at h
        simp (config := { maxSteps := 2000000 }) only [go_sem, hG, hP, Nat.reduceEqDiff, ↓reduceIte, reduceCtorEq, Nat.reduceAdd, Nat.reduceSub, Nat.reduceMul, Nat.reduceLT, Nat.reduceLeDiff, Int.reduceAdd, Int.reduceSub, Int.reduceMul, Int.reduceLT, Int.reduceLE, Int.reduceEq, Int.reduceNeg, Int.reduceNe, Int.reduceGE, Int.reduceGT, Nat.reduceBEq, Int.reduceToNat,  e0]
        refine ⟨_, _, _, ?_, h⟩
        simp (config := { maxSteps := 2000000 }) only [go_sem, hG, hP, Nat.reduceEqDiff, ↓reduceIte, reduceCtorEq, Nat.reduceAdd, Nat.reduceSub, Nat.reduceMul, Nat.reduceLT, Nat.reduceLeDiff, Int.reduceAdd, Int.reduceSub, Int.reduceMul, Int.reduceLT, Int.reduceLE, Int.reduceEq, Int.reduceNeg, Int.reduceNe, Int.reduceGE, Int.reduceGT, Nat.reduceBEq, Int.reduceToNat]
  · exact h.elim
end Go.Proofs.YtgmcijagaielaaaE

/-! The pairs that need moves, twice. -/
namespace Go.Proofs.YtgmcijagaielaaaE
open Go Go.RowKit
set_option linter.unusedSimpArgs false
set_option linter.unusedVariables false
set_option maxRecDepth 20000
set_option maxHeartbeats 8000000

/-- One of the first j paths has g at x. -/
def used (g : Pth → Int) (q : List Pth) : Nat → Int → Bool
  | 0, _ => false
  | j + 1, x => decide (g (q.getD j Pz) = x) || used g q j x
def keyI (g : Pth → Int) (q : List Pth) : Nat → List (Key × ByteArray)
  | 0 => []
  | j + 1 => (.i (g (q.getD j Pz)), ⟨#[]⟩) :: keyI g q j
theorem has_keyI {g : Pth → Int} {q : List Pth} {x : Int} : ∀ {j : Nat}, hasM (keyI g q j) (.i x) = used g q j x
  | 0 => rfl
  | j + 1 => by
    rw [keyI, hasM_cons, used, has_keyI]
    congr 1
    by_cases e : g (q.getD j Pz) = x <;> simp [e]
def usedB (g : Pth → Int) (q : List Pth) (n j : Nat) : List Bool := (List.range n).map fun x => used g q j (x : Nat)
theorem usedB_len {g : Pth → Int} {q : List Pth} {n j : Nat} : (usedB g q n j).length = n := by simp [usedB]
theorem usedB_0 {g : Pth → Int} {q : List Pth} {n : Nat} : usedB g q n 0 = List.replicate n false := by
  unfold usedB
  apply List.ext_getElem?
  intro i
  by_cases h : i < n <;> simp [h, used]
theorem usedB_get {g : Pth → Int} {q : List Pth} {n j x : Nat} (h : x < n) : (usedB g q n j).getD x false = used g q j x := by
  simp [usedB, List.getD, h]
theorem usedB_set {g : Pth → Int} {q : List Pth} {n j : Nat} {y : Int} (h : g (q.getD j Pz) = y) (h0 : 0 ≤ y) : (usedB g q n j).set y.toNat true = usedB g q n (j + 1) := by
  unfold usedB
  apply List.ext_getElem?
  intro i
  rw [List.getElem?_set]
  by_cases hi : i < n
  · by_cases e : y.toNat = i
    · subst e
      have e1 : ((y.toNat : Nat) : Int) = y := by omega
      rw [if_pos rfl, if_pos (by simpa using hi), List.getElem?_map, List.getElem?_range hi, Option.map_some, used, h, e1]; simp
    · have e2 : ¬ y = (i : Int) := by omega
      rw [if_neg e, List.getElem?_map, List.getElem?_map, List.getElem?_range hi, Option.map_some, Option.map_some, used, h, decide_eq_false e2]; simp
  · simp [hi]
    omega
def need (d : Fb) (x y : Int) : Bool := !used (·.src) d.q d.q.length x && !used (·.dst) d.q d.q.length y && decide (leastI (freeP d.p d.q (x.tdiv d.p) (y.tdiv d.p)) d.m.toNat < 0)
def needCell (d : Fb) (x y : Int) : List Pth := if need d x y = true then [⟨x, y, -1⟩] else []
def needRow (d : Fb) (x : Int) : Nat → List Pth
  | 0 => []
  | y + 1 => needRow d x y ++ needCell d x (y : Nat)
def needAll (d : Fb) (n : Nat) : Nat → List Pth
  | 0 => []
  | x + 1 => needAll d n x ++ needRow d (x : Nat) n
def needs (d : Fb) : List Pth := if fbOk d = true then needAll d (d.s * d.p).toNat (d.s * d.p).toNat else []
theorem needRow_len (d : Fb) (x : Int) : ∀ n : Nat, (needRow d x n).length ≤ n
  | 0 => by simp [needRow]
  | n + 1 => by
    have := needRow_len d x n
    have h2 : (needCell d x n).length ≤ 1 := by unfold needCell; split <;> simp
    simp [needRow]; omega
theorem needAll_len (d : Fb) (n : Nat) : ∀ k : Nat, (needAll d n k).length ≤ k * n
  | 0 => by simp [needAll]
  | k + 1 => by
    have := needAll_len d n k
    have h2 := needRow_len d k n
    simp [needAll, Nat.add_mul]; omega
theorem needs_len (d : Fb) : (needs d).length ≤ 1024 := by
  unfold needs
  split
  · rename_i h
    obtain ⟨⟨h1, h2, h3⟩, h4⟩ := fbOk_is h
    have hsp := sp_bd ⟨h1, h2⟩
    have := needAll_len d (d.s * d.p).toNat (d.s * d.p).toNat
    have h5 : (d.s * d.p).toNat * (d.s * d.p).toNat ≤ 24 * 24 := Nat.mul_le_mul (by omega) (by omega)
    omega
  · simp
theorem needCell_yes {d : Fb} {x y : Int} (h : need d x y = true) : needCell d x y = [⟨x, y, -1⟩] := by unfold needCell; rw [if_pos h]
theorem needCell_no {d : Fb} {x y : Int} (h : need d x y = false) : needCell d x y = [] := by unfold needCell; rw [if_neg (by rw [h]; simp)]
theorem need_f1 {d : Fb} {x y : Int} (h : used (·.src) d.q d.q.length x = true) : need d x y = false := by unfold need; rw [h]; rfl
theorem need_f2 {d : Fb} {x y : Int} (h : used (·.dst) d.q d.q.length y = true) : need d x y = false := by unfold need; rw [h]; simp
theorem need_f3 {d : Fb} {x y : Int} (h : ¬ leastI (freeP d.p d.q (x.tdiv d.p) (y.tdiv d.p)) d.m.toNat < 0) : need d x y = false := by unfold need; rw [decide_eq_false h]; simp
theorem need_t {d : Fb} {x y : Int} (h1 : used (·.src) d.q d.q.length x = false) (h2 : used (·.dst) d.q d.q.length y = false) (h : leastI (freeP d.p d.q (x.tdiv d.p) (y.tdiv d.p)) d.m.toNat < 0) : need d x y = true := by
  unfold need; rw [h1, h2, decide_eq_true h]; rfl
def spNeeds : Spec := ⟨fun _ _ => [], fun args objs K => match args, objs with
  | [.agg [.v (.int .i64 s), .v (.int .i64 p), .v (.int .i64 m), .rs .path q]], [] => q.length ≤ 1099511627776 ∧ K (.sub 0 3 0 (needs ⟨s, p, m, q⟩).length) [(0, .row .path (needs ⟨s, p, m, q⟩))] 1
  | _, _ => False, false⟩
theorem spNeeds_t {L : Hp} {a : List AVal} : Spec.take spNeeds L a = [] := id rfl
theorem spNeeds_k : Spec.keep spNeeds = false := id rfl
theorem spNeeds_f {s} {p} {m} {q} {K : AVal → Hp → Nat → Prop} : Spec.f spNeeds ([.agg [.v (.int .i64 s), .v (.int .i64 p), .v (.int .i64 m), .rs .path q]]) ([]) K = (q.length ≤ 1099511627776 ∧ K (.sub 0 3 0 (needs ⟨s, p, m, q⟩).length) [(0, .row .path (needs ⟨s, p, m, q⟩))] 1) := id rfl
theorem valid19 : Valid Try.prog 19 spNeeds := by
  refine validI (Γ := lk [(12, spFbOk), (46, spFree)]) Try.func19 bod19 low19 res19 (good_of ⟨⟨cal12, valid12⟩, ⟨cal46, valid46⟩, trivial⟩) ?_
  intro E args objs K h hE hG hP
  simp only [spNeeds] at h
  split at h
  · refine ⟨by simp [Try.ntmps19], ?_⟩
    rename_i s p m q
    obtain ⟨b1, h⟩ := h
    rcases hok : fbOk ⟨s, p, m, q⟩ with _ | _
    · rw [show needs ⟨s, p, m, q⟩ = [] by unfold needs; rw [hok]; rfl] at h
      simp (config := { maxSteps := 2000000 }) only [go_sem, hG, hP, Nat.reduceEqDiff, ↓reduceIte, reduceCtorEq, Nat.reduceAdd, Nat.reduceSub, Nat.reduceMul, Nat.reduceLT, Nat.reduceLeDiff, Int.reduceAdd, Int.reduceSub, Int.reduceMul, Int.reduceLT, Int.reduceLE, Int.reduceEq, Int.reduceNeg, Int.reduceNe, Int.reduceGE, Int.reduceGT, Nat.reduceBEq, Int.reduceToNat,  spFbOk_f, spFbOk_t, spFbOk_k, hok]
      repeat (refine And.intro (by first | omega | (simp; done) | (simp; omega) | (unfold appRoom; omega)) ?_)
      refine ⟨_, _, _, ?_, h⟩
      simp (config := { maxSteps := 2000000 }) only [go_sem, hG, hP, Nat.reduceEqDiff, ↓reduceIte, reduceCtorEq, Nat.reduceAdd, Nat.reduceSub, Nat.reduceMul, Nat.reduceLT, Nat.reduceLeDiff, Int.reduceAdd, Int.reduceSub, Int.reduceMul, Int.reduceLT, Int.reduceLE, Int.reduceEq, Int.reduceNeg, Int.reduceNe, Int.reduceGE, Int.reduceGT, Nat.reduceBEq, Int.reduceToNat]
    · obtain ⟨⟨h1, h2, h3⟩, h4⟩ := fbOk_is hok
      have hsm := fbOk_small hok
      have hsp := sp_bd ⟨h1, h2⟩
      dsimp only at hsp h1 h2 h3 hsm
      rw [show needs ⟨s, p, m, q⟩ = needAll ⟨s, p, m, q⟩ (s * p).toNat (s * p).toNat by unfold needs; rw [hok]; rfl] at h
      have wsp : wr .i64 (s * p) = s * p := wrap_id (by omega) (by omega)
      have pz : (p = 0) = False := eq_false (by omega)
      generalize hn : (s * p).toNat = n at *
      have hn2 : s * p = (n : Int) := by omega
      have wn : wr .i64 (n : Int) = (n : Int) := wrap_id (by omega) (by omega)
      simp (config := { maxSteps := 2000000 }) only [go_sem, hG, hP, Nat.reduceEqDiff, ↓reduceIte, reduceCtorEq, Nat.reduceAdd, Nat.reduceSub, Nat.reduceMul, Nat.reduceLT, Nat.reduceLeDiff, Int.reduceAdd, Int.reduceSub, Int.reduceMul, Int.reduceLT, Int.reduceLE, Int.reduceEq, Int.reduceNeg, Int.reduceNe, Int.reduceGE, Int.reduceGT, Nat.reduceBEq, Int.reduceToNat,  spFbOk_f, spFbOk_t, spFbOk_k, hok, hn2, wn]
      repeat (refine And.intro (by first | omega | (simp; done) | (simp; omega) | (unfold appRoom; omega)) ?_)
      refine loopI hE (fun i : Nat => ⟨[(1, .ptr 0 0), (3, .v (.slice none 0 0)), (4, .v (.int .i64 n)), (5, .mp 1), (6, .mp 2), (22, .rs .path q), (23, .v (.int .i64 q.length)), (24, .v (.int .i64 i))], [(0, .box [.v (.int .i64 s), .v (.int .i64 p), .v (.int .i64 m), .rs .path q]), (1, .set .int false (keyI (·.src) q i)), (2, .set .int false (keyI (·.dst) q i))], 3, Try.f19.ntmps⟩) (fun i => i ≤ q.length) (fun i => q.length - i) ⟨0, Nat.zero_le _, SubS.weak ?_⟩ ?_
      · simp (config := { maxSteps := 2000000 }) only [go_sem, hG, hP, Nat.reduceEqDiff, ↓reduceIte, reduceCtorEq, Nat.reduceAdd, Nat.reduceSub, Nat.reduceMul, Nat.reduceLT, Nat.reduceLeDiff, Int.reduceAdd, Int.reduceSub, Int.reduceMul, Int.reduceLT, Int.reduceLE, Int.reduceEq, Int.reduceNeg, Int.reduceNe, Int.reduceGE, Int.reduceGT, Nat.reduceBEq, Int.reduceToNat,  keyI]
        repeat' (first | with_reducible rfl | (refine And.intro ?_ ?_) | (refine congrArg (Value.int _) ?_; omega) | omega)
      · intro i hi
        by_cases hlt : i < q.length
        · have e0 : ((i : Int) < (q.length : Int)) = True := eq_true (by omega)
          generalize hxx : q.getD i Pz = x at *
          have k1 : keyI (·.src) q (i + 1) = (.i x.src, ⟨#[]⟩) :: keyI (·.src) q i := by rw [keyI, hxx]
          have k2 : keyI (·.dst) q (i + 1) = (.i x.dst, ⟨#[]⟩) :: keyI (·.dst) q i := by rw [keyI, hxx]
          simp (config := { maxSteps := 2000000 }) only [go_sem, hG, hP, Nat.reduceEqDiff, ↓reduceIte, reduceCtorEq, Nat.reduceAdd, Nat.reduceSub, Nat.reduceMul, Nat.reduceLT, Nat.reduceLeDiff, Int.reduceAdd, Int.reduceSub, Int.reduceMul, Int.reduceLT, Int.reduceLE, Int.reduceEq, Int.reduceNeg, Int.reduceNe, Int.reduceGE, Int.reduceGT, Nat.reduceBEq, Int.reduceToNat,  e0, hxx]
          (try simp (disch := omega) only [wrap_id])
          repeat (refine And.intro (by first | omega | (simp; done) | (simp; omega) | (unfold appRoom; omega)) ?_)
          repeat' (first | (refine And.intro ?_ ?_) | (with_reducible intro _))
          all_goals first
            | omega
            | (refine ⟨i + 1, ⟨by omega, by omega⟩, SubS.weak ?_⟩; simp (config := { maxSteps := 2000000 }) only [go_sem, hG, hP, Nat.reduceEqDiff, ↓reduceIte, reduceCtorEq, Nat.reduceAdd, Nat.reduceSub, Nat.reduceMul, Nat.reduceLT, Nat.reduceLeDiff, Int.reduceAdd, Int.reduceSub, Int.reduceMul, Int.reduceLT, Int.reduceLE, Int.reduceEq, Int.reduceNeg, Int.reduceNe, Int.reduceGE, Int.reduceGT, Nat.reduceBEq, Int.reduceToNat,  k1, k2]; repeat' (first | with_reducible rfl | (refine And.intro ?_ ?_) | (refine congrArg (Value.int _) ?_; omega) | omega))
        · have e0 : ((i : Int) < (q.length : Int)) = False := eq_false (by omega)
          obtain rfl : i = q.length := by omega
          simp (config := { maxSteps := 2000000 }) only [go_sem, hG, hP, Nat.reduceEqDiff, ↓reduceIte, reduceCtorEq, Nat.reduceAdd, Nat.reduceSub, Nat.reduceMul, Nat.reduceLT, Nat.reduceLeDiff, Int.reduceAdd, Int.reduceSub, Int.reduceMul, Int.reduceLT, Int.reduceLE, Int.reduceEq, Int.reduceNeg, Int.reduceNe, Int.reduceGE, Int.reduceGT, Nat.reduceBEq, Int.reduceToNat,  e0]
          refine loopI hE (fun i : Nat => ⟨[(1, .ptr 0 0), (3, .sub 3 3 0 (needAll ⟨s, p, m, q⟩ n i).length), (4, .v (.int .i64 n)), (5, .mp 1), (6, .mp 2), (35, .v (.int .i64 n)), (36, .v (.int .i64 i))], [(0, .box [.v (.int .i64 s), .v (.int .i64 p), .v (.int .i64 m), .rs .path q]), (1, .set .int false (keyI (·.src) q q.length)), (2, .set .int false (keyI (·.dst) q q.length)), (3, .row .path (needAll ⟨s, p, m, q⟩ n i))], 4, Try.f19.ntmps⟩) (fun i => i ≤ n) (fun i => n - i) ⟨0, Nat.zero_le _, SubS.weak ?_⟩ ?_
          · simp (config := { maxSteps := 2000000 }) only [go_sem, hG, hP, Nat.reduceEqDiff, ↓reduceIte, reduceCtorEq, Nat.reduceAdd, Nat.reduceSub, Nat.reduceMul, Nat.reduceLT, Nat.reduceLeDiff, Int.reduceAdd, Int.reduceSub, Int.reduceMul, Int.reduceLT, Int.reduceLE, Int.reduceEq, Int.reduceNeg, Int.reduceNe, Int.reduceGE, Int.reduceGT, Nat.reduceBEq, Int.reduceToNat,  needAll]
            repeat' (first | with_reducible rfl | (refine And.intro ?_ ?_) | (refine congrArg (Value.int _) ?_; omega) | omega)
          · intro x hx
            by_cases hlx : x < n
            · have e1 : ((x : Int) < (n : Int)) = True := eq_true (by omega)
              simp (config := { maxSteps := 2000000 }) only [go_sem, hG, hP, Nat.reduceEqDiff, ↓reduceIte, reduceCtorEq, Nat.reduceAdd, Nat.reduceSub, Nat.reduceMul, Nat.reduceLT, Nat.reduceLeDiff, Int.reduceAdd, Int.reduceSub, Int.reduceMul, Int.reduceLT, Int.reduceLE, Int.reduceEq, Int.reduceNeg, Int.reduceNe, Int.reduceGE, Int.reduceGT, Nat.reduceBEq, Int.reduceToNat,  e1]
              refine loopI hE (fun j : Nat => ⟨[(1, .ptr 0 0), (3, .sub 3 3 0 (needAll ⟨s, p, m, q⟩ n x ++ needRow ⟨s, p, m, q⟩ (x : Nat) j).length), (4, .v (.int .i64 n)), (5, .mp 1), (6, .mp 2), (35, .v (.int .i64 n)), (36, .v (.int .i64 x)), (9, .v (.int .i64 x)), (39, .v (.int .i64 n)), (40, .v (.int .i64 j))], [(0, .box [.v (.int .i64 s), .v (.int .i64 p), .v (.int .i64 m), .rs .path q]), (1, .set .int false (keyI (·.src) q q.length)), (2, .set .int false (keyI (·.dst) q q.length)), (3, .row .path (needAll ⟨s, p, m, q⟩ n x ++ needRow ⟨s, p, m, q⟩ (x : Nat) j))], 4, Try.f19.ntmps⟩) (fun i => i ≤ n) (fun i => n - i) ⟨0, Nat.zero_le _, SubS.weak ?_⟩ ?_
              · simp (config := { maxSteps := 2000000 }) only [go_sem, hG, hP, Nat.reduceEqDiff, ↓reduceIte, reduceCtorEq, Nat.reduceAdd, Nat.reduceSub, Nat.reduceMul, Nat.reduceLT, Nat.reduceLeDiff, Int.reduceAdd, Int.reduceSub, Int.reduceMul, Int.reduceLT, Int.reduceLE, Int.reduceEq, Int.reduceNeg, Int.reduceNe, Int.reduceGE, Int.reduceGT, Nat.reduceBEq, Int.reduceToNat,  needRow]
                repeat' (first | with_reducible rfl | (refine And.intro ?_ ?_) | (refine congrArg (Value.int _) ?_; omega) | omega)
              · intro y hy
                by_cases hly : y < n
                · have e2 : ((y : Int) < (n : Int)) = True := eq_true (by omega)
                  have wx := wq (a := (x : Int)) (by omega) (by omega) h2.1
                  have wy := wq (a := (y : Int)) (by omega) (by omega) h2.1
                  have l1 := needAll_len ⟨s, p, m, q⟩ n x
                  have l2 := needRow_len ⟨s, p, m, q⟩ (x : Nat) y
                  have l3 : x * n ≤ 24 * 24 := Nat.mul_le_mul (by omega) (by omega)
                  have f1 := @need_f1 ⟨s, p, m, q⟩ (x : Nat) (y : Nat)
                  have f2 := @need_f2 ⟨s, p, m, q⟩ (x : Nat) (y : Nat)
                  have f3 := @need_f3 ⟨s, p, m, q⟩ (x : Nat) (y : Nat)
                  have t1 := @need_t ⟨s, p, m, q⟩ (x : Nat) (y : Nat)
                  dsimp only at f1 f2 f3 t1
                  have r1 : need ⟨s, p, m, q⟩ (x : Nat) (y : Nat) = false → needAll ⟨s, p, m, q⟩ n x ++ needRow ⟨s, p, m, q⟩ (x : Nat) (y + 1) = needAll ⟨s, p, m, q⟩ n x ++ needRow ⟨s, p, m, q⟩ (x : Nat) y := fun e => by rw [needRow, needCell_no e, List.append_nil]
                  have r2 : need ⟨s, p, m, q⟩ (x : Nat) (y : Nat) = true → needAll ⟨s, p, m, q⟩ n x ++ needRow ⟨s, p, m, q⟩ (x : Nat) (y + 1) = (needAll ⟨s, p, m, q⟩ n x ++ needRow ⟨s, p, m, q⟩ (x : Nat) y) ++ [⟨(x : Nat), (y : Nat), -1⟩] := fun e => by rw [needRow, needCell_yes e, List.append_assoc]
                  have l4 : (needAll ⟨s, p, m, q⟩ n x ++ needRow ⟨s, p, m, q⟩ (x : Nat) y).length ≤ 1024 := by rw [List.length_append]; omega
                  generalize needAll ⟨s, p, m, q⟩ n x ++ needRow ⟨s, p, m, q⟩ (x : Nat) y = out at *
                  simp (config := { maxSteps := 2000000 }) only [go_sem, hG, hP, Nat.reduceEqDiff, ↓reduceIte, reduceCtorEq, Nat.reduceAdd, Nat.reduceSub, Nat.reduceMul, Nat.reduceLT, Nat.reduceLeDiff, Int.reduceAdd, Int.reduceSub, Int.reduceMul, Int.reduceLT, Int.reduceLE, Int.reduceEq, Int.reduceNeg, Int.reduceNe, Int.reduceGE, Int.reduceGT, Nat.reduceBEq, Int.reduceToNat,  e2, spFree_f, spFree_t, spFree_k, has_keyI, wx, wy, pz]
                  (try simp (disch := omega) only [wrap_id])
                  repeat' (first | (refine And.intro ?_ ?_) | (with_reducible intro _))
                  all_goals first
                    | assumption
                    | omega
                    | (refine ⟨y + 1, ⟨by omega, by omega⟩, SubS.weak ?_⟩; (first | rw [r1 (f1 (by assumption))] | rw [r1 (f2 (by assumption))] | rw [r1 (f3 (by assumption))] | rw [r2 (t1 (by assumption) (by assumption) (by assumption))]); simp (config := { maxSteps := 2000000 }) only [go_sem, hG, hP, Nat.reduceEqDiff, ↓reduceIte, reduceCtorEq, Nat.reduceAdd, Nat.reduceSub, Nat.reduceMul, Nat.reduceLT, Nat.reduceLeDiff, Int.reduceAdd, Int.reduceSub, Int.reduceMul, Int.reduceLT, Int.reduceLE, Int.reduceEq, Int.reduceNeg, Int.reduceNe, Int.reduceGE, Int.reduceGT, Nat.reduceBEq, Int.reduceToNat]; all_goals (first | (simp; done) | omega))
                    | (unfold appRoom; omega)
                · have e2 : ((y : Int) < (n : Int)) = False := eq_false (by omega)
                  obtain rfl : y = n := by omega
                  simp (config := { maxSteps := 2000000 }) only [go_sem, hG, hP, Nat.reduceEqDiff, ↓reduceIte, reduceCtorEq, Nat.reduceAdd, Nat.reduceSub, Nat.reduceMul, Nat.reduceLT, Nat.reduceLeDiff, Int.reduceAdd, Int.reduceSub, Int.reduceMul, Int.reduceLT, Int.reduceLE, Int.reduceEq, Int.reduceNeg, Int.reduceNe, Int.reduceGE, Int.reduceGT, Nat.reduceBEq, Int.reduceToNat,  e2]
                  (try simp (disch := omega) only [wrap_id])
                  refine ⟨x + 1, ⟨by omega, by omega⟩, SubS.weak ?_⟩
                  simp (config := { maxSteps := 2000000 }) only [go_sem, hG, hP, Nat.reduceEqDiff, ↓reduceIte, reduceCtorEq, Nat.reduceAdd, Nat.reduceSub, Nat.reduceMul, Nat.reduceLT, Nat.reduceLeDiff, Int.reduceAdd, Int.reduceSub, Int.reduceMul, Int.reduceLT, Int.reduceLE, Int.reduceEq, Int.reduceNeg, Int.reduceNe, Int.reduceGE, Int.reduceGT, Nat.reduceBEq, Int.reduceToNat,  needAll]
                  repeat' (first | with_reducible rfl | (refine And.intro ?_ ?_) | (refine congrArg (Value.int _) ?_; omega) | omega)
            · have e1 : ((x : Int) < (n : Int)) = False := eq_false (by omega)
              obtain rfl : x = n := by omega
              simp (config := { maxSteps := 2000000 }) only [go_sem, hG, hP, Nat.reduceEqDiff, ↓reduceIte, reduceCtorEq, Nat.reduceAdd, Nat.reduceSub, Nat.reduceMul, Nat.reduceLT, Nat.reduceLeDiff, Int.reduceAdd, Int.reduceSub, Int.reduceMul, Int.reduceLT, Int.reduceLE, Int.reduceEq, Int.reduceNeg, Int.reduceNe, Int.reduceGE, Int.reduceGT, Nat.reduceBEq, Int.reduceToNat,  e1]
              refine ⟨_, _, _, ?_, h⟩
              simp (config := { maxSteps := 2000000 }) only [go_sem, hG, hP, Nat.reduceEqDiff, ↓reduceIte, reduceCtorEq, Nat.reduceAdd, Nat.reduceSub, Nat.reduceMul, Nat.reduceLT, Nat.reduceLeDiff, Int.reduceAdd, Int.reduceSub, Int.reduceMul, Int.reduceLT, Int.reduceLE, Int.reduceEq, Int.reduceNeg, Int.reduceNe, Int.reduceGE, Int.reduceGT, Nat.reduceBEq, Int.reduceToNat]
              repeat' (first | with_reducible rfl | (refine And.intro ?_ ?_) | (refine congrArg (Value.int _) ?_; omega) | omega)
  · exact h.elim
end Go.Proofs.YtgmcijagaielaaaE

/-! The pairs that need moves, in the reference; the law. -/
namespace Go.Proofs.YtgmcijagaielaaaE
open Go Go.RowKit
set_option linter.unusedSimpArgs false
set_option linter.unusedVariables false
set_option maxRecDepth 20000
set_option maxHeartbeats 8000000

theorem or_tt' {b : Bool} (h : b = true) (c : Bool) : (b || c) = true := by rw [h]; rfl
theorem valid18 : Valid Try.prog 18 spNeeds := by
  refine validI (Γ := lk [(10, spFbOk), (44, spAt false), (45, spAt true)]) Try.func18 bod18 low18 res18 (good_of ⟨⟨cal10, valid10⟩, ⟨cal44, valid44⟩, ⟨cal45, valid45⟩, trivial⟩) ?_
  intro E args objs K h hE hG hP
  simp only [spNeeds] at h
  split at h
  · refine ⟨by simp [Try.ntmps18], ?_⟩
    rename_i s p m q
    obtain ⟨b1, h⟩ := h
    rcases hok : fbOk ⟨s, p, m, q⟩ with _ | _
    · rw [show needs ⟨s, p, m, q⟩ = [] by unfold needs; rw [hok]; rfl] at h
      simp (config := { maxSteps := 2000000 }) only [go_sem, hG, hP, Nat.reduceEqDiff, ↓reduceIte, reduceCtorEq, Nat.reduceAdd, Nat.reduceSub, Nat.reduceMul, Nat.reduceLT, Nat.reduceLeDiff, Int.reduceAdd, Int.reduceSub, Int.reduceMul, Int.reduceLT, Int.reduceLE, Int.reduceEq, Int.reduceNeg, Int.reduceNe, Int.reduceGE, Int.reduceGT, Nat.reduceBEq, Int.reduceToNat,  spFbOk_f, spFbOk_t, spFbOk_k, hok]
      repeat (refine And.intro (by first | omega | (simp; done) | (simp; omega) | (unfold appRoom; omega)) ?_)
      refine ⟨_, _, _, ?_, h⟩
      simp (config := { maxSteps := 2000000 }) only [go_sem, hG, hP, Nat.reduceEqDiff, ↓reduceIte, reduceCtorEq, Nat.reduceAdd, Nat.reduceSub, Nat.reduceMul, Nat.reduceLT, Nat.reduceLeDiff, Int.reduceAdd, Int.reduceSub, Int.reduceMul, Int.reduceLT, Int.reduceLE, Int.reduceEq, Int.reduceNeg, Int.reduceNe, Int.reduceGE, Int.reduceGT, Nat.reduceBEq, Int.reduceToNat]
    · obtain ⟨⟨h1, h2, h3⟩, h4⟩ := fbOk_is hok
      have hsm := fbOk_small hok
      have hsp := sp_bd ⟨h1, h2⟩
      dsimp only at hsp h1 h2 h3 hsm
      rw [show needs ⟨s, p, m, q⟩ = needAll ⟨s, p, m, q⟩ (s * p).toNat (s * p).toNat by unfold needs; rw [hok]; rfl] at h
      have pz : (p = 0) = False := eq_false (by omega)
      generalize hn : (s * p).toNat = n at *
      have hn2 : s * p = (n : Int) := by omega
      have wn : wr .i64 (n : Int) = (n : Int) := wrap_id (by omega) (by omega)
      simp (config := { maxSteps := 2000000 }) only [go_sem, hG, hP, Nat.reduceEqDiff, ↓reduceIte, reduceCtorEq, Nat.reduceAdd, Nat.reduceSub, Nat.reduceMul, Nat.reduceLT, Nat.reduceLeDiff, Int.reduceAdd, Int.reduceSub, Int.reduceMul, Int.reduceLT, Int.reduceLE, Int.reduceEq, Int.reduceNeg, Int.reduceNe, Int.reduceGE, Int.reduceGT, Nat.reduceBEq, Int.reduceToNat,  spFbOk_f, spFbOk_t, spFbOk_k, hok, hn2, wn]
      repeat' (first | (refine And.intro ?_ ?_) | (with_reducible intro _))
      all_goals try ((first | omega | (unfold appRoom; omega) | (simp (config := { maxSteps := 2000000 }) only [go_sem, hG, hP, Nat.reduceEqDiff, ↓reduceIte, reduceCtorEq, Nat.reduceAdd, Nat.reduceSub, Nat.reduceMul, Nat.reduceLT, Nat.reduceLeDiff, Int.reduceAdd, Int.reduceSub, Int.reduceMul, Int.reduceLT, Int.reduceLE, Int.reduceEq, Int.reduceNeg, Int.reduceNe, Int.reduceGE, Int.reduceGT, Nat.reduceBEq, Int.reduceToNat]; repeat' (first | with_reducible rfl | (refine And.intro ?_ ?_) | (refine congrArg (Value.int _) ?_; omega) | omega))); done)
      refine loopI hE (fun i : Nat => ⟨[(1, .ptr 0 0), (3, .sub 3 3 0 0), (4, .v (.int .i64 n)), (5, .sub 1 1 0 n), (6, .sub 2 1 0 n), (7, .v (.int .i64 i))], [(0, .box [.v (.int .i64 s), .v (.int .i64 p), .v (.int .i64 m), .rs .path q]), (1, .row .bool (usedB (·.src) q n i)), (2, .row .bool (usedB (·.dst) q n i)), (3, .row .path [])], 4, Try.f18.ntmps⟩) (fun i => i ≤ q.length) (fun i => q.length - i) ⟨0, Nat.zero_le _, SubS.weak ?_⟩ ?_
      · simp (config := { maxSteps := 2000000 }) only [go_sem, hG, hP, Nat.reduceEqDiff, ↓reduceIte, reduceCtorEq, Nat.reduceAdd, Nat.reduceSub, Nat.reduceMul, Nat.reduceLT, Nat.reduceLeDiff, Int.reduceAdd, Int.reduceSub, Int.reduceMul, Int.reduceLT, Int.reduceLE, Int.reduceEq, Int.reduceNeg, Int.reduceNe, Int.reduceGE, Int.reduceGT, Nat.reduceBEq, Int.reduceToNat,  usedB_0]
        repeat' (first | with_reducible rfl | (refine And.intro ?_ ?_) | (refine congrArg (Value.int _) ?_; omega) | omega)
      · intro i hi
        by_cases hlt : i < q.length
        · have e0 : ((i : Int) < (q.length : Int)) = True := eq_true (by omega)
          have hx := (h4 i hlt).1
          have k1 := @usedB_set (·.src) q n i _ rfl hx.1.1
          have k2 := @usedB_set (·.dst) q n i _ rfl hx.2.1.1
          unfold okP at hx
          dsimp only at hx k1 k2
          generalize hxx : q.getD i Pz = x at *
          simp (config := { maxSteps := 2000000 }) only [go_sem, hG, hP, Nat.reduceEqDiff, ↓reduceIte, reduceCtorEq, Nat.reduceAdd, Nat.reduceSub, Nat.reduceMul, Nat.reduceLT, Nat.reduceLeDiff, Int.reduceAdd, Int.reduceSub, Int.reduceMul, Int.reduceLT, Int.reduceLE, Int.reduceEq, Int.reduceNeg, Int.reduceNe, Int.reduceGE, Int.reduceGT, Nat.reduceBEq, Int.reduceToNat,  e0, hxx, usedB_len]
          (try simp (disch := omega) only [wrap_id])
          repeat (refine And.intro (by first | omega | (simp; done) | (simp; omega) | (unfold appRoom; omega)) ?_)
          refine ⟨i + 1, ⟨by omega, by omega⟩, SubS.weak ?_⟩
          simp (config := { maxSteps := 2000000 }) only [go_sem, hG, hP, Nat.reduceEqDiff, ↓reduceIte, reduceCtorEq, Nat.reduceAdd, Nat.reduceSub, Nat.reduceMul, Nat.reduceLT, Nat.reduceLeDiff, Int.reduceAdd, Int.reduceSub, Int.reduceMul, Int.reduceLT, Int.reduceLE, Int.reduceEq, Int.reduceNeg, Int.reduceNe, Int.reduceGE, Int.reduceGT, Nat.reduceBEq, Int.reduceToNat,  k1, k2]
          repeat' (first | with_reducible rfl | (refine And.intro ?_ ?_) | (refine congrArg (Value.int _) ?_; omega) | omega)
        · have e0 : ((i : Int) < (q.length : Int)) = False := eq_false (by omega)
          obtain rfl : i = q.length := by omega
          simp (config := { maxSteps := 2000000 }) only [go_sem, hG, hP, Nat.reduceEqDiff, ↓reduceIte, reduceCtorEq, Nat.reduceAdd, Nat.reduceSub, Nat.reduceMul, Nat.reduceLT, Nat.reduceLeDiff, Int.reduceAdd, Int.reduceSub, Int.reduceMul, Int.reduceLT, Int.reduceLE, Int.reduceEq, Int.reduceNeg, Int.reduceNe, Int.reduceGE, Int.reduceGT, Nat.reduceBEq, Int.reduceToNat,  e0]
          refine loopI hE (fun i : Nat => ⟨[(1, .ptr 0 0), (3, .sub 3 3 0 (needAll ⟨s, p, m, q⟩ n i).length), (4, .v (.int .i64 n)), (5, .sub 1 1 0 n), (6, .sub 2 1 0 n), (8, .v (.int .i64 i))], [(0, .box [.v (.int .i64 s), .v (.int .i64 p), .v (.int .i64 m), .rs .path q]), (1, .row .bool (usedB (·.src) q n q.length)), (2, .row .bool (usedB (·.dst) q n q.length)), (3, .row .path (needAll ⟨s, p, m, q⟩ n i))], 4, Try.f18.ntmps⟩) (fun i => i ≤ n) (fun i => n - i) ⟨0, Nat.zero_le _, SubS.weak ?_⟩ ?_
          · simp (config := { maxSteps := 2000000 }) only [go_sem, hG, hP, Nat.reduceEqDiff, ↓reduceIte, reduceCtorEq, Nat.reduceAdd, Nat.reduceSub, Nat.reduceMul, Nat.reduceLT, Nat.reduceLeDiff, Int.reduceAdd, Int.reduceSub, Int.reduceMul, Int.reduceLT, Int.reduceLE, Int.reduceEq, Int.reduceNeg, Int.reduceNe, Int.reduceGE, Int.reduceGT, Nat.reduceBEq, Int.reduceToNat,  needAll]
            repeat' (first | with_reducible rfl | (refine And.intro ?_ ?_) | (refine congrArg (Value.int _) ?_; omega) | omega)
          · intro x hx
            by_cases hlx : x < n
            · have e1 : ((x : Int) < (n : Int)) = True := eq_true (by omega)
              simp (config := { maxSteps := 2000000 }) only [go_sem, hG, hP, Nat.reduceEqDiff, ↓reduceIte, reduceCtorEq, Nat.reduceAdd, Nat.reduceSub, Nat.reduceMul, Nat.reduceLT, Nat.reduceLeDiff, Int.reduceAdd, Int.reduceSub, Int.reduceMul, Int.reduceLT, Int.reduceLE, Int.reduceEq, Int.reduceNeg, Int.reduceNe, Int.reduceGE, Int.reduceGT, Nat.reduceBEq, Int.reduceToNat,  e1]
              refine loopI hE (fun j : Nat => ⟨[(1, .ptr 0 0), (3, .sub 3 3 0 (needAll ⟨s, p, m, q⟩ n x ++ needRow ⟨s, p, m, q⟩ (x : Nat) j).length), (4, .v (.int .i64 n)), (5, .sub 1 1 0 n), (6, .sub 2 1 0 n), (8, .v (.int .i64 x)), (9, .v (.int .i64 j))], [(0, .box [.v (.int .i64 s), .v (.int .i64 p), .v (.int .i64 m), .rs .path q]), (1, .row .bool (usedB (·.src) q n q.length)), (2, .row .bool (usedB (·.dst) q n q.length)), (3, .row .path (needAll ⟨s, p, m, q⟩ n x ++ needRow ⟨s, p, m, q⟩ (x : Nat) j))], 4, Try.f18.ntmps⟩) (fun i => i ≤ n) (fun i => n - i) ⟨0, Nat.zero_le _, SubS.weak ?_⟩ ?_
              · simp (config := { maxSteps := 2000000 }) only [go_sem, hG, hP, Nat.reduceEqDiff, ↓reduceIte, reduceCtorEq, Nat.reduceAdd, Nat.reduceSub, Nat.reduceMul, Nat.reduceLT, Nat.reduceLeDiff, Int.reduceAdd, Int.reduceSub, Int.reduceMul, Int.reduceLT, Int.reduceLE, Int.reduceEq, Int.reduceNeg, Int.reduceNe, Int.reduceGE, Int.reduceGT, Nat.reduceBEq, Int.reduceToNat,  needRow]
                repeat' (first | with_reducible rfl | (refine And.intro ?_ ?_) | (refine congrArg (Value.int _) ?_; omega) | omega)
              · intro y hy
                by_cases hly : y < n
                · have e2 : ((y : Int) < (n : Int)) = True := eq_true (by omega)
                  have wx := wq (a := (x : Int)) (by omega) (by omega) h2.1
                  have wy := wq (a := (y : Int)) (by omega) (by omega) h2.1
                  have l1 := needAll_len ⟨s, p, m, q⟩ n x
                  have l2 := needRow_len ⟨s, p, m, q⟩ (x : Nat) y
                  have l3 : x * n ≤ 24 * 24 := Nat.mul_le_mul (by omega) (by omega)
                  have ux := @usedB_get (·.src) q n q.length x hlx
                  have uy := @usedB_get (·.dst) q n q.length y hly
                  have f1 := @need_f1 ⟨s, p, m, q⟩ (x : Nat) (y : Nat)
                  have f2 := @need_f2 ⟨s, p, m, q⟩ (x : Nat) (y : Nat)
                  have f3 := @need_f3 ⟨s, p, m, q⟩ (x : Nat) (y : Nat)
                  have t1 := @need_t ⟨s, p, m, q⟩ (x : Nat) (y : Nat)
                  dsimp only at f1 f2 f3 t1
                  have r1 : need ⟨s, p, m, q⟩ (x : Nat) (y : Nat) = false → needAll ⟨s, p, m, q⟩ n x ++ needRow ⟨s, p, m, q⟩ (x : Nat) (y + 1) = needAll ⟨s, p, m, q⟩ n x ++ needRow ⟨s, p, m, q⟩ (x : Nat) y := fun e => by rw [needRow, needCell_no e, List.append_nil]
                  have r2 : need ⟨s, p, m, q⟩ (x : Nat) (y : Nat) = true → needAll ⟨s, p, m, q⟩ n x ++ needRow ⟨s, p, m, q⟩ (x : Nat) (y + 1) = (needAll ⟨s, p, m, q⟩ n x ++ needRow ⟨s, p, m, q⟩ (x : Nat) y) ++ [⟨(x : Nat), (y : Nat), -1⟩] := fun e => by rw [needRow, needCell_yes e, List.append_assoc]
                  have l4 : (needAll ⟨s, p, m, q⟩ n x ++ needRow ⟨s, p, m, q⟩ (x : Nat) y).length ≤ 1024 := by rw [List.length_append]; omega
                  have hx0 : 0 ≤ (x : Int).tdiv p := Int.tdiv_nonneg (by omega) (by omega)
                  have hy0 : 0 ≤ (y : Int).tdiv p := Int.tdiv_nonneg (by omega) (by omega)
                  generalize needAll ⟨s, p, m, q⟩ n x ++ needRow ⟨s, p, m, q⟩ (x : Nat) y = out at *
                  have key : ∀ b0 : Bool, (b0 = true → need ⟨s, p, m, q⟩ (x : Nat) (y : Nat) = false) → (b0 = false → used (·.src) q q.length (x : Nat) = false ∧ used (·.dst) q q.length (y : Nat) = false) →
                      (((0, b0) : Nat × Bool).1 : Int) ≤ m ∧ (((0, b0) : Nat × Bool).2 = true → need ⟨s, p, m, q⟩ (x : Nat) (y : Nat) = false) ∧ (((0, b0) : Nat × Bool).2 = false → (used (·.src) q q.length (x : Nat) = false ∧ used (·.dst) q q.length (y : Nat) = false) ∧ ∀ j, j < ((0, b0) : Nat × Bool).1 → freeP p q ((x : Int).tdiv p) ((y : Int).tdiv p) j = false) := fun b0 a b =>
                    ⟨by dsimp only; omega, a, fun e => ⟨b e, fun j hj => absurd hj (Nat.not_lt_zero _)⟩⟩
                  have start : ∃ b0 : Bool, b0 = (used (·.src) q q.length (x : Nat) || used (·.dst) q q.length (y : Nat)) ∧ (b0 = true → need ⟨s, p, m, q⟩ (x : Nat) (y : Nat) = false) ∧ (b0 = false → used (·.src) q q.length (x : Nat) = false ∧ used (·.dst) q q.length (y : Nat) = false) := by
                    refine ⟨_, rfl, fun e => ?_, fun e => by simpa using e⟩
                    simp only [Bool.or_eq_true] at e
                    rcases e with e | e
                    · exact f1 e
                    · exact f2 e
                  obtain ⟨b0, hb0, hb1, hb2⟩ := start
                  rcases hu : used (·.src) q q.length (x : Nat) with _ | _ <;> rcases hv : used (·.dst) q q.length (y : Nat) with _ | _
                  all_goals
                    rw [hu, hv] at hb0
                    simp only [Bool.or_false, Bool.or_true] at hb0
                    subst hb0
                    simp (config := { maxSteps := 2000000 }) only [go_sem, hG, hP, Nat.reduceEqDiff, ↓reduceIte, reduceCtorEq, Nat.reduceAdd, Nat.reduceSub, Nat.reduceMul, Nat.reduceLT, Nat.reduceLeDiff, Int.reduceAdd, Int.reduceSub, Int.reduceMul, Int.reduceLT, Int.reduceLE, Int.reduceEq, Int.reduceNeg, Int.reduceNe, Int.reduceGE, Int.reduceGT, Nat.reduceBEq, Int.reduceToNat,  e2, ux, uy, usedB_len, hu, hv]
                    (try simp (disch := omega) only [wrap_id])
                    repeat (refine And.intro (by first | omega | (simp; done) | (simp; omega) | (unfold appRoom; omega)) ?_)
                    refine loopI hE (fun i : Nat × Bool => ⟨[(1, .ptr 0 0), (3, .sub 3 3 0 out.length), (4, .v (.int .i64 n)), (5, .sub 1 1 0 n), (6, .sub 2 1 0 n), (8, .v (.int .i64 x)), (9, .v (.int .i64 y)), (10, .v (.bool i.2)), (11, .v (.int .i64 i.1))], [(0, .box [.v (.int .i64 s), .v (.int .i64 p), .v (.int .i64 m), .rs .path q]), (1, .row .bool (usedB (·.src) q n q.length)), (2, .row .bool (usedB (·.dst) q n q.length)), (3, .row .path out)], 4, Try.f18.ntmps⟩) (fun i => (i.1 : Int) ≤ m ∧ (i.2 = true → need ⟨s, p, m, q⟩ (x : Nat) (y : Nat) = false) ∧ (i.2 = false → (used (·.src) q q.length (x : Nat) = false ∧ used (·.dst) q q.length (y : Nat) = false) ∧ ∀ j, j < i.1 → freeP p q ((x : Int).tdiv p) ((y : Int).tdiv p) j = false)) (fun i => m.toNat - i.1) ⟨(0, _), key _ hb1 hb2, SubS.weak ?_⟩ ?_
                    · simp (config := { maxSteps := 2000000 }) only [go_sem, hG, hP, Nat.reduceEqDiff, ↓reduceIte, reduceCtorEq, Nat.reduceAdd, Nat.reduceSub, Nat.reduceMul, Nat.reduceLT, Nat.reduceLeDiff, Int.reduceAdd, Int.reduceSub, Int.reduceMul, Int.reduceLT, Int.reduceLE, Int.reduceEq, Int.reduceNeg, Int.reduceNe, Int.reduceGE, Int.reduceGT, Nat.reduceBEq, Int.reduceToNat]
                      repeat' (first | with_reducible rfl | (refine And.intro ?_ ?_) | (refine congrArg (Value.int _) ?_; omega) | omega)
                    · rintro ⟨k, b⟩ ⟨hk, hbt, hbf⟩
                      dsimp only at hk hbt hbf ⊢
                      cases b with
                      | true =>
                        simp (config := { maxSteps := 2000000 }) only [go_sem, hG, hP, Nat.reduceEqDiff, ↓reduceIte, reduceCtorEq, Nat.reduceAdd, Nat.reduceSub, Nat.reduceMul, Nat.reduceLT, Nat.reduceLeDiff, Int.reduceAdd, Int.reduceSub, Int.reduceMul, Int.reduceLT, Int.reduceLE, Int.reduceEq, Int.reduceNeg, Int.reduceNe, Int.reduceGE, Int.reduceGT, Nat.reduceBEq, Int.reduceToNat]
                        (try simp (disch := omega) only [wrap_id])
                        repeat' (first | (refine And.intro ?_ ?_) | (with_reducible intro _))
                        all_goals first
                          | omega
                          | (refine ⟨y + 1, ⟨by omega, by omega⟩, SubS.weak ?_⟩; rw [r1 (hbt rfl)]; simp (config := { maxSteps := 2000000 }) only [go_sem, hG, hP, Nat.reduceEqDiff, ↓reduceIte, reduceCtorEq, Nat.reduceAdd, Nat.reduceSub, Nat.reduceMul, Nat.reduceLT, Nat.reduceLeDiff, Int.reduceAdd, Int.reduceSub, Int.reduceMul, Int.reduceLT, Int.reduceLE, Int.reduceEq, Int.reduceNeg, Int.reduceNe, Int.reduceGE, Int.reduceGT, Nat.reduceBEq, Int.reduceToNat]; all_goals (first | (simp; done) | omega))
                      | false =>
                        obtain ⟨hu2, hpre⟩ := hbf rfl
                        by_cases hlk : (k : Int) < m
                        · have e3 : ((k : Int) < m) = True := eq_true hlk
                          by_cases c1 : fidx (atP p false ((x : Int).tdiv p) (k : Int)) q < 0
                          · by_cases c2 : fidx (atP p true ((y : Int).tdiv p) (k : Int)) q < 0
                            · have hf := f3 (by rw [least_hit hpre (freeP_t (.inr c1) (.inr c2)) (by omega)]; omega)
                              have d1 := eq_true c1
                              have d2 := eq_true c2
                              simp (config := { maxSteps := 2000000 }) only [go_sem, hG, hP, Nat.reduceEqDiff, ↓reduceIte, reduceCtorEq, Nat.reduceAdd, Nat.reduceSub, Nat.reduceMul, Nat.reduceLT, Nat.reduceLeDiff, Int.reduceAdd, Int.reduceSub, Int.reduceMul, Int.reduceLT, Int.reduceLE, Int.reduceEq, Int.reduceNeg, Int.reduceNe, Int.reduceGE, Int.reduceGT, Nat.reduceBEq, Int.reduceToNat,  atS_t, atS_k, atS_f, e3, wx, wy, pz, d1, d2]
                              (try simp (disch := omega) only [wrap_id])
                              repeat (refine And.intro (by first | omega | (simp; done) | (simp; omega) | (unfold appRoom; omega)) ?_)
                              refine ⟨⟨b1, h2.1, hsm⟩, ⟨b1, h2.1, hsm⟩, (k + 1, true), ⟨⟨by dsimp only; omega, fun _ => hf, fun e => (by cases e)⟩, by dsimp only; omega⟩, SubS.weak ?_⟩
                              simp (config := { maxSteps := 2000000 }) only [go_sem, hG, hP, Nat.reduceEqDiff, ↓reduceIte, reduceCtorEq, Nat.reduceAdd, Nat.reduceSub, Nat.reduceMul, Nat.reduceLT, Nat.reduceLeDiff, Int.reduceAdd, Int.reduceSub, Int.reduceMul, Int.reduceLT, Int.reduceLE, Int.reduceEq, Int.reduceNeg, Int.reduceNe, Int.reduceGE, Int.reduceGT, Nat.reduceBEq, Int.reduceToNat]
                              repeat' (first | with_reducible rfl | (refine And.intro ?_ ?_) | (refine congrArg (Value.int _) ?_; omega) | omega)
                            · have hf := freeP_f (p := p) (q := q) (i := (x : Int).tdiv p) (o := (y : Int).tdiv p) (k := k) (by omega)
                              have d1 := eq_true c1
                              have d2 := eq_false c2
                              simp (config := { maxSteps := 2000000 }) only [go_sem, hG, hP, Nat.reduceEqDiff, ↓reduceIte, reduceCtorEq, Nat.reduceAdd, Nat.reduceSub, Nat.reduceMul, Nat.reduceLT, Nat.reduceLeDiff, Int.reduceAdd, Int.reduceSub, Int.reduceMul, Int.reduceLT, Int.reduceLE, Int.reduceEq, Int.reduceNeg, Int.reduceNe, Int.reduceGE, Int.reduceGT, Nat.reduceBEq, Int.reduceToNat,  atS_t, atS_k, atS_f, e3, wx, wy, pz, d1, d2]
                              (try simp (disch := omega) only [wrap_id])
                              repeat (refine And.intro (by first | omega | (simp; done) | (simp; omega) | (unfold appRoom; omega)) ?_)
                              refine ⟨⟨b1, h2.1, hsm⟩, ⟨b1, h2.1, hsm⟩, (k + 1, false), ⟨⟨by dsimp only; omega, fun e => (by cases e), fun _ => ⟨hu2, upto_succ hpre hf⟩⟩, by dsimp only; omega⟩, SubS.weak ?_⟩
                              simp (config := { maxSteps := 2000000 }) only [go_sem, hG, hP, Nat.reduceEqDiff, ↓reduceIte, reduceCtorEq, Nat.reduceAdd, Nat.reduceSub, Nat.reduceMul, Nat.reduceLT, Nat.reduceLeDiff, Int.reduceAdd, Int.reduceSub, Int.reduceMul, Int.reduceLT, Int.reduceLE, Int.reduceEq, Int.reduceNeg, Int.reduceNe, Int.reduceGE, Int.reduceGT, Nat.reduceBEq, Int.reduceToNat]
                              repeat' (first | with_reducible rfl | (refine And.intro ?_ ?_) | (refine congrArg (Value.int _) ?_; omega) | omega)
                          · have hf := freeP_f (p := p) (q := q) (i := (x : Int).tdiv p) (o := (y : Int).tdiv p) (k := k) (by omega)
                            have d1 := eq_false c1
                            simp (config := { maxSteps := 2000000 }) only [go_sem, hG, hP, Nat.reduceEqDiff, ↓reduceIte, reduceCtorEq, Nat.reduceAdd, Nat.reduceSub, Nat.reduceMul, Nat.reduceLT, Nat.reduceLeDiff, Int.reduceAdd, Int.reduceSub, Int.reduceMul, Int.reduceLT, Int.reduceLE, Int.reduceEq, Int.reduceNeg, Int.reduceNe, Int.reduceGE, Int.reduceGT, Nat.reduceBEq, Int.reduceToNat,  atS_t, atS_k, atS_f, e3, wx, wy, pz, d1]
                            (try simp (disch := omega) only [wrap_id])
                            repeat (refine And.intro (by first | omega | (simp; done) | (simp; omega) | (unfold appRoom; omega)) ?_)
                            refine ⟨⟨b1, h2.1, hsm⟩, (k + 1, false), ⟨⟨by dsimp only; omega, fun e => (by cases e), fun _ => ⟨hu2, upto_succ hpre hf⟩⟩, by dsimp only; omega⟩, SubS.weak ?_⟩
                            simp (config := { maxSteps := 2000000 }) only [go_sem, hG, hP, Nat.reduceEqDiff, ↓reduceIte, reduceCtorEq, Nat.reduceAdd, Nat.reduceSub, Nat.reduceMul, Nat.reduceLT, Nat.reduceLeDiff, Int.reduceAdd, Int.reduceSub, Int.reduceMul, Int.reduceLT, Int.reduceLE, Int.reduceEq, Int.reduceNeg, Int.reduceNe, Int.reduceGE, Int.reduceGT, Nat.reduceBEq, Int.reduceToNat]
                            repeat' (first | with_reducible rfl | (refine And.intro ?_ ?_) | (refine congrArg (Value.int _) ?_; omega) | omega)
                        · have e3 : ((k : Int) < m) = False := eq_false hlk
                          have hk2 : k = m.toNat := by omega
                          subst hk2
                          have hy1 := t1 hu2.1 hu2.2 (by rw [least_none hpre]; omega)
                          simp (config := { maxSteps := 2000000 }) only [go_sem, hG, hP, Nat.reduceEqDiff, ↓reduceIte, reduceCtorEq, Nat.reduceAdd, Nat.reduceSub, Nat.reduceMul, Nat.reduceLT, Nat.reduceLeDiff, Int.reduceAdd, Int.reduceSub, Int.reduceMul, Int.reduceLT, Int.reduceLE, Int.reduceEq, Int.reduceNeg, Int.reduceNe, Int.reduceGE, Int.reduceGT, Nat.reduceBEq, Int.reduceToNat,  e3]
                          (try simp (disch := omega) only [wrap_id])
                          repeat (refine And.intro (by first | omega | (simp; done) | (simp; omega) | (unfold appRoom; omega)) ?_)
                          repeat' (first | (refine And.intro ?_ ?_) | (with_reducible intro _))
                          all_goals first
                            | omega
                            | (unfold appRoom; omega)
                            | (refine ⟨y + 1, ⟨by omega, by omega⟩, SubS.weak ?_⟩; rw [r2 hy1]; simp (config := { maxSteps := 2000000 }) only [go_sem, hG, hP, Nat.reduceEqDiff, ↓reduceIte, reduceCtorEq, Nat.reduceAdd, Nat.reduceSub, Nat.reduceMul, Nat.reduceLT, Nat.reduceLeDiff, Int.reduceAdd, Int.reduceSub, Int.reduceMul, Int.reduceLT, Int.reduceLE, Int.reduceEq, Int.reduceNeg, Int.reduceNe, Int.reduceGE, Int.reduceGT, Nat.reduceBEq, Int.reduceToNat]; all_goals (first | (simp; done) | omega))
                · have e2 : ((y : Int) < (n : Int)) = False := eq_false (by omega)
                  obtain rfl : y = n := by omega
                  simp (config := { maxSteps := 2000000 }) only [go_sem, hG, hP, Nat.reduceEqDiff, ↓reduceIte, reduceCtorEq, Nat.reduceAdd, Nat.reduceSub, Nat.reduceMul, Nat.reduceLT, Nat.reduceLeDiff, Int.reduceAdd, Int.reduceSub, Int.reduceMul, Int.reduceLT, Int.reduceLE, Int.reduceEq, Int.reduceNeg, Int.reduceNe, Int.reduceGE, Int.reduceGT, Nat.reduceBEq, Int.reduceToNat,  e2]
                  (try simp (disch := omega) only [wrap_id])
                  refine ⟨x + 1, ⟨by omega, by omega⟩, SubS.weak ?_⟩
                  simp (config := { maxSteps := 2000000 }) only [go_sem, hG, hP, Nat.reduceEqDiff, ↓reduceIte, reduceCtorEq, Nat.reduceAdd, Nat.reduceSub, Nat.reduceMul, Nat.reduceLT, Nat.reduceLeDiff, Int.reduceAdd, Int.reduceSub, Int.reduceMul, Int.reduceLT, Int.reduceLE, Int.reduceEq, Int.reduceNeg, Int.reduceNe, Int.reduceGE, Int.reduceGT, Nat.reduceBEq, Int.reduceToNat,  needAll]
                  repeat' (first | with_reducible rfl | (refine And.intro ?_ ?_) | (refine congrArg (Value.int _) ?_; omega) | omega)
            · have e1 : ((x : Int) < (n : Int)) = False := eq_false (by omega)
              obtain rfl : x = n := by omega
              simp (config := { maxSteps := 2000000 }) only [go_sem, hG, hP, Nat.reduceEqDiff, ↓reduceIte, reduceCtorEq, Nat.reduceAdd, Nat.reduceSub, Nat.reduceMul, Nat.reduceLT, Nat.reduceLeDiff, Int.reduceAdd, Int.reduceSub, Int.reduceMul, Int.reduceLT, Int.reduceLE, Int.reduceEq, Int.reduceNeg, Int.reduceNe, Int.reduceGE, Int.reduceGT, Nat.reduceBEq, Int.reduceToNat,  e1]
              refine ⟨_, _, _, ?_, h⟩
              simp (config := { maxSteps := 2000000 }) only [go_sem, hG, hP, Nat.reduceEqDiff, ↓reduceIte, reduceCtorEq, Nat.reduceAdd, Nat.reduceSub, Nat.reduceMul, Nat.reduceLT, Nat.reduceLeDiff, Int.reduceAdd, Int.reduceSub, Int.reduceMul, Int.reduceLT, Int.reduceLE, Int.reduceEq, Int.reduceNeg, Int.reduceNe, Int.reduceGE, Int.reduceGT, Nat.reduceBEq, Int.reduceToNat]
              repeat' (first | with_reducible rfl | (refine And.intro ?_ ?_) | (refine congrArg (Value.int _) ?_; omega) | omega)
  · exact h.elim
end Go.Proofs.YtgmcijagaielaaaE

/-! Chains of paths that change two Mids, plainly. -/
namespace Go.Proofs.YtgmcijagaielaaaE
open Go Go.RowKit
set_option linter.unusedSimpArgs false
set_option linter.unusedVariables false
set_option maxRecDepth 20000

theorem nodup_len : ∀ (n : Nat) (l : List Nat), l.Nodup → (∀ x ∈ l, x < n) → l.length ≤ n
  | 0, l, _, h => by
    cases l with
    | nil => simp
    | cons x r => have := h x (by simp); omega
  | n + 1, l, h1, h => by
    by_cases hn : n ∈ l
    · have := nodup_len n (l.erase n) (h1.erase n) (fun x hx => by
        rw [h1.mem_erase_iff] at hx
        have := h x hx.2; omega)
      rw [List.length_erase_of_mem hn] at this; omega
    · have := nodup_len n l h1 (fun x hx => by
        have := h x hx
        have : x ≠ n := fun e => hn (e ▸ hx)
        omega)
      omega
def sideAt (p : Int) (out : Bool) (x : Pth) : Int := (if out = true then x.dst else x.src).tdiv p
theorem atP_eq {p side mid : Int} {out : Bool} {x : Pth} : atP p out side mid x = decide (sideAt p out x = side ∧ x.mid = mid) := rfl
theorem atP_iff {p side mid : Int} {out : Bool} {x : Pth} : atP p out side mid x = true ↔ sideAt p out x = side ∧ x.mid = mid := by rw [atP_eq, decide_eq_true_eq]
theorem atP_iff_f {p side mid : Int} {out : Bool} {x : Pth} : atP p out side mid x = false ↔ ¬ (sideAt p out x = side ∧ x.mid = mid) := by rw [atP_eq, decide_eq_false_iff_not]
/-- No two paths at one switch have one Mid. -/
def Proper (q : List Pth) (p : Int) : Prop := ∀ i j : Nat, i < q.length → j < q.length → i ≠ j → ∀ out : Bool, sideAt p out (q.getD i Pz) = sideAt p out (q.getD j Pz) → (q.getD i Pz).mid ≠ (q.getD j Pz).mid
def par : Nat → Bool
  | 0 => false
  | n + 1 => !par n
/-- The places of the paths of a chain: from the path at a switch with a Mid on. -/
def chain (q : List Pth) (p : Int) : Nat → Bool → Int → Int → Int → List Nat
  | 0, _, _, _, _ => []
  | n + 1, out, side, mid, oth => if fidx (atP p out side mid) q < 0 then [] else (fidx (atP p out side mid) q).toNat :: chain q p n (!out) (sideAt p (!out) (q.getD (fidx (atP p out side mid) q).toNat Pz)) oth mid
structure Wk (q : List Pth) (p : Int) (out : Bool) (side mid oth : Int) (l : List Nat) : Prop where
  bd : ∀ t, t < l.length → l.getD t 0 < q.length
  col : ∀ t, t < l.length → (q.getD (l.getD t 0) Pz).mid = if par t = true then oth else mid
  first : 0 < l.length → sideAt p out (q.getD (l.getD 0 0) Pz) = side
  next : ∀ t, t + 1 < l.length → sideAt p (out ^^ par (t + 1)) (q.getD (l.getD t 0) Pz) = sideAt p (out ^^ par (t + 1)) (q.getD (l.getD (t + 1) 0) Pz)
theorem getD_cons_succ {α : Type} {a z : α} {r : List α} {t : Nat} : (a :: r).getD (t + 1) z = r.getD t z := by simp [List.getD]
theorem getD_cons_zero {α : Type} {a z : α} {r : List α} : (a :: r).getD 0 z = a := by simp [List.getD]
theorem Wk.nil {q : List Pth} {p : Int} {out : Bool} {side mid oth : Int} : Wk q p out side mid oth [] := ⟨fun t h => by simp at h, fun t h => by simp at h, fun h => by simp at h, fun t h => by simp at h⟩
theorem Wk.cons {q : List Pth} {p : Int} {out : Bool} {side mid oth : Int} {e : Nat} {r : List Nat} (h0 : e < q.length) (h1 : sideAt p out (q.getD e Pz) = side) (h2 : (q.getD e Pz).mid = mid)
    (h : Wk q p (!out) (sideAt p (!out) (q.getD e Pz)) oth mid r) : Wk q p out side mid oth (e :: r) := by
  refine ⟨fun t ht => ?_, fun t ht => ?_, fun _ => by rw [getD_cons_zero]; exact h1, fun t ht => ?_⟩
  · cases t with
    | zero => rw [getD_cons_zero]; exact h0
    | succ t => rw [getD_cons_succ]; exact h.bd t (by simpa using ht)
  · cases t with
    | zero => rw [getD_cons_zero]; simpa [par] using h2
    | succ t =>
      rw [getD_cons_succ, h.col t (by simpa using ht)]
      simp only [par]; rcases Bool.eq_false_or_eq_true (par t) with hq | hq <;> simp [hq]
  · cases t with
    | zero =>
      rw [getD_cons_zero, getD_cons_succ]
      have := h.first (by simpa using ht)
      simp only [par, Bool.not_false, Bool.xor_true]
      exact this.symm
    | succ t =>
      rw [getD_cons_succ, getD_cons_succ]
      have := h.next t (by simpa using ht)
      simp only [par] at this ⊢
      cases out <;> rcases Bool.eq_false_or_eq_true (par t) with hq | hq <;> simpa [hq] using this
theorem chain_wk {q : List Pth} {p : Int} : ∀ {n : Nat} {out : Bool} {side mid oth : Int}, Wk q p out side mid oth (chain q p n out side mid oth)
  | 0, _, _, _, _ => .nil
  | n + 1, out, side, mid, oth => by
    unfold chain
    split
    · exact .nil
    · rename_i h
      obtain ⟨h1, h2, _⟩ := fidx_is (P := atP p out side mid) (q := q) (by omega)
      obtain ⟨h3, h4⟩ := atP_iff.1 h2
      exact .cons h1 h3 h4 chain_wk
/-- No place comes twice, where nothing has the other Mid at the switch where the chain begins. -/
theorem Wk.distinct {q : List Pth} {p : Int} {out : Bool} {side mid oth : Int} {l : List Nat} (h : Wk q p out side mid oth l) (hp : Proper q p) (hne : mid ≠ oth)
    (hm : ∀ k, k < q.length → atP p out side oth (q.getD k Pz) = false) : ∀ s t, s < t → t < l.length → l.getD t 0 ≠ l.getD s 0 := by
  intro s
  induction s with
  | zero =>
    intro t ht htl he
    have c1 := h.col t htl
    have c0 := h.col 0 (by omega)
    rw [he, c0] at c1
    have hpt : par t = false := by
      cases hh : par t with
      | false => rfl
      | true => rw [hh] at c1; simp [par] at c1; exact absurd c1 hne
    obtain ⟨u, rfl⟩ : ∃ u, t = u + 1 := ⟨t - 1, by omega⟩
    have hn := h.next u htl
    have hpu : par u = true := by simpa [par] using hpt
    rw [hpt, Bool.xor_false, he] at hn
    rw [h.first (by omega)] at hn
    have cu := h.col u (by omega)
    rw [hpu, if_pos rfl] at cu
    exact absurd (atP_iff.2 ⟨hn, cu⟩) (by rw [hm _ (h.bd u (by omega))]; simp)
  | succ s ih =>
    intro t ht htl he
    have c1 := h.col t htl
    have c0 := h.col (s + 1) (by omega)
    rw [he, c0] at c1
    have hpt : par t = par (s + 1) := by
      cases h1 : par t <;> cases h2 : par (s + 1) <;> rw [h1, h2] at c1 <;> simp at c1 <;> first | rfl | exact absurd c1 hne | exact absurd c1.symm hne
    obtain ⟨u, rfl⟩ : ∃ u, t = u + 1 := ⟨t - 1, by omega⟩
    have n1 := h.next u htl
    have n2 := h.next s (by omega)
    rw [hpt, he, ← n2] at n1
    have cu := h.col u (by omega)
    have cs := h.col s (by omega)
    have hpu : par u = par s := by simpa [par] using hpt
    rw [hpu, ← cs] at cu
    by_cases e : l.getD u 0 = l.getD s 0
    · exact ih u (by omega) (by omega) e
    · exact hp _ _ (h.bd u (by omega)) (h.bd s (by omega)) e _ n1 cu
theorem nodup_getD {l : List Nat} (h : ∀ s t, s < t → t < l.length → l.getD t 0 ≠ l.getD s 0) : l.Nodup := by
  rw [List.nodup_iff_pairwise_ne, List.pairwise_iff_getElem]
  intro i j hi hj hij e
  have := h i j hij hj
  simp [List.getD, hi, hj] at this
  exact this e.symm
theorem Wk.len {q : List Pth} {p : Int} {out : Bool} {side mid oth : Int} {l : List Nat} (h : Wk q p out side mid oth l) (hp : Proper q p) (hne : mid ≠ oth)
    (hm : ∀ k, k < q.length → atP p out side oth (q.getD k Pz) = false) : l.length ≤ q.length :=
  nodup_len _ _ (nodup_getD (h.distinct hp hne hm)) fun x hx => by
    obtain ⟨t, ht, rfl⟩ := List.getElem_of_mem hx
    have := h.bd t ht
    simpa [List.getD, ht] using this
/-- A chain that ended ahead of its most has nothing behind it. -/
theorem chain_end {q : List Pth} {p : Int} : ∀ {n : Nat} {out : Bool} {side mid oth : Int}, (chain q p n out side mid oth).length < n →
    ((chain q p n out side mid oth).length = 0 → ∀ k, k < q.length → atP p out side mid (q.getD k Pz) = false) ∧
    (∀ t, t + 1 = (chain q p n out side mid oth).length → ∀ k, k < q.length → ¬ (sideAt p (out ^^ par (t + 1)) (q.getD k Pz) = sideAt p (out ^^ par (t + 1)) (q.getD ((chain q p n out side mid oth).getD t 0) Pz) ∧ (q.getD k Pz).mid = if par (t + 1) = true then oth else mid))
  | 0, _, _, _, _, h => by simp [chain] at h
  | n + 1, out, side, mid, oth, h => by
    unfold chain at h ⊢
    split at h
    · rename_i h0
      rw [if_pos h0]
      exact ⟨fun _ => fidx_no h0, fun t ht => by simp at ht⟩
    · rename_i h0
      rw [if_neg h0]
      obtain ⟨i1, i2⟩ := chain_end (q := q) (p := p) (n := n) (by simpa using h)
      refine ⟨fun e => by simp at e, fun t ht k hk => ?_⟩
      cases t with
      | zero =>
        rw [getD_cons_zero]
        have := i1 (by simpa using ht.symm) k hk
        rw [atP_iff_f] at this
        simpa [par] using this
      | succ t =>
        rw [getD_cons_succ]
        have := i2 t (by simpa using ht) k hk
        simp only [par] at this ⊢
        cases out <;> rcases Bool.eq_false_or_eq_true (par t) with hq | hq <;> simpa [hq] using this
end Go.Proofs.YtgmcijagaielaaaE

/-! The code of a function, in the engine's words. -/
namespace Go.Proofs.YtgmcijagaielaaaE
open Go Go.RowKit
@[reducible] def ic48 : IC := (.seq (.ops [⟨some 5, .box (.tmp 0), none⟩, ⟨some 10, .mov (.const (.slice none 0 0)), none⟩]) (.seq (.ops [⟨some 14, .blds .move 0 [], none⟩, ⟨some 11, .mov (.tmp 14), none⟩]) (.seq (.block 0 (.loop (.seq (.seq (.ops [⟨some 15, .mov (.tmp 1), none⟩, ⟨some 16, .bin .geq (.tmp 15) (.const (.int .i64 0)), none⟩]) (.cond (.tmp 16) .skip (.exit 0))) (.block 1 (.seq (.ops [⟨some 17, .fadr 3 (.tmp 5), none⟩, ⟨some 18, .load 1 false (.tmp 17), none⟩, ⟨some 19, .mov (.tmp 1), none⟩, ⟨some 20, .iadr 3 (.tmp 18) (.tmp 19), none⟩, ⟨some 21, .load 3 true (.tmp 20), none⟩, ⟨some 12, .new [(.int .i64 0), (.int .i64 0), (.int .i64 0)], none⟩, ⟨none, .store 3 (.tmp 12) (.tmp 21), none⟩]) (.seq (.ops [⟨some 22, .mov (.tmp 11), none⟩, ⟨some 23, .fadr 0 (.tmp 12), none⟩, ⟨some 24, .load 1 false (.tmp 23), none⟩, ⟨some 25, .mov (.tmp 3), none⟩, ⟨some 26, .bld [(.int .i64 0), (.int .i64 0)] [(0, 1, (.tmp 24)), (1, 1, (.tmp 25))], none⟩, ⟨some 27, .blds .move 1 [(0, 2, (.tmp 26))], none⟩, ⟨some 28, .app .move 16 (.tmp 22) (.tmp 27), none⟩, ⟨some 11, .mov (.tmp 28), none⟩]) (.seq (.seq (.ops [⟨some 29, .mov (.tmp 4), none⟩]) (.cond (.tmp 29) (.draw [⟨some 30, .load 4 true (.tmp 5), none⟩, ⟨some 31, .fadr 0 (.tmp 12), none⟩, ⟨some 32, .load 1 false (.tmp 31), none⟩, ⟨some 33, .fadr 1 (.tmp 5), none⟩, ⟨some 34, .load 1 false (.tmp 33), none⟩, ⟨some 35, .bin .quo (.tmp 32) (.tmp 34), none⟩, ⟨some 36, .mov (.tmp 3), none⟩, ⟨some 37, .call 44 [(.tmp 30), (.tmp 35), (.tmp 36)], none⟩, ⟨some 1, .mov (.tmp 37), none⟩] (.held ⟨some 30, .load 4 true (.tmp 5), none⟩ (.held ⟨some 31, .fadr 0 (.tmp 12), none⟩ (.held ⟨some 32, .load 1 false (.tmp 31), none⟩ (.held ⟨some 33, .fadr 1 (.tmp 5), none⟩ (.held ⟨some 34, .load 1 false (.tmp 33), none⟩ (.held ⟨some 35, .bin .quo (.tmp 32) (.tmp 34), none⟩ (.held ⟨some 36, .mov (.tmp 3), none⟩ (.alt ⟨some 37, .call 44 [(.tmp 30), (.tmp 35), (.tmp 36)], none⟩ (.held ⟨some 1, .mov (.tmp 37), none⟩ .done) .stop))))))))) (.draw [⟨some 38, .load 4 true (.tmp 5), none⟩, ⟨some 39, .fadr 1 (.tmp 12), none⟩, ⟨some 40, .load 1 false (.tmp 39), none⟩, ⟨some 41, .fadr 1 (.tmp 5), none⟩, ⟨some 42, .load 1 false (.tmp 41), none⟩, ⟨some 43, .bin .quo (.tmp 40) (.tmp 42), none⟩, ⟨some 44, .mov (.tmp 3), none⟩, ⟨some 45, .call 45 [(.tmp 38), (.tmp 43), (.tmp 44)], none⟩, ⟨some 1, .mov (.tmp 45), none⟩] (.held ⟨some 38, .load 4 true (.tmp 5), none⟩ (.held ⟨some 39, .fadr 1 (.tmp 12), none⟩ (.held ⟨some 40, .load 1 false (.tmp 39), none⟩ (.held ⟨some 41, .fadr 1 (.tmp 5), none⟩ (.held ⟨some 42, .load 1 false (.tmp 41), none⟩ (.held ⟨some 43, .bin .quo (.tmp 40) (.tmp 42), none⟩ (.held ⟨some 44, .mov (.tmp 3), none⟩ (.alt ⟨some 45, .call 45 [(.tmp 38), (.tmp 43), (.tmp 44)], none⟩ (.held ⟨some 1, .mov (.tmp 45), none⟩ .done) .stop))))))))))) (.seq (.ops [⟨some 46, .mov (.tmp 2), none⟩, ⟨some 13, .mov (.tmp 46), none⟩]) (.seq (.ops [⟨some 47, .mov (.tmp 3), none⟩, ⟨some 2, .mov (.tmp 47), none⟩]) (.seq (.ops [⟨some 48, .mov (.tmp 13), none⟩, ⟨some 3, .mov (.tmp 48), none⟩]) (.ops [⟨some 49, .mov (.tmp 4), none⟩, ⟨some 50, .una .not (.tmp 49), none⟩, ⟨some 4, .mov (.tmp 50), none⟩]))))))))))) (.seq (.ops [⟨some 51, .mov (.tmp 11), none⟩, ⟨some 10, .mov (.tmp 51), none⟩]) .ret))))
@[reducible] def rv48 : List RV := [.tmp 10]
theorem low48 : lowC Try.prog tau Try.f48.ntmps (Try.f48.body.getD .skip) = some (erase ic48) := by kernel_rfl
theorem res48 : lowR Try.prog Try.f48.results.toList = some rv48 := by kernel_rfl
theorem bod48 : Try.f48.body = some (Try.f48.body.getD .skip) := by kernel_rfl
theorem cal48 : callable Try.prog 48 = true := by kernel_rfl

end Go.Proofs.YtgmcijagaielaaaE

/-! The code of a function, in the engine's words. -/
namespace Go.Proofs.YtgmcijagaielaaaE
open Go Go.RowKit
@[reducible] def ic51 : IC := (.seq (.ops [⟨some 9, .mov (.const (.slice none 0 0)), none⟩]) (.seq (.ops [⟨some 10, .mov (.const (.slice none 0 0)), none⟩]) (.block 0 (.loop (.block 1 (.seq (.ops [⟨some 12, .load 4 true (.tmp 3), none⟩, ⟨some 13, .mov (.tmp 0), none⟩, ⟨some 14, .mov (.tmp 1), none⟩, ⟨some 15, .mov (.tmp 2), none⟩, ⟨some 16, .call 52 [(.tmp 12), (.tmp 13), (.tmp 14), (.tmp 15)], none⟩, ⟨some 11, .mov (.tmp 16), none⟩]) (.seq (.seq (.ops [⟨some 17, .mov (.tmp 11), none⟩, ⟨some 18, .bin .lss (.tmp 17) (.const (.int .i64 0)), none⟩]) (.cond (.tmp 18) (.seq (.ops [⟨some 19, .mov (.tmp 10), none⟩, ⟨some 9, .mov (.tmp 19), none⟩]) .ret) .skip)) (.seq (.ops [⟨some 20, .mov (.tmp 10), none⟩, ⟨some 21, .mov (.tmp 11), none⟩, ⟨some 22, .blds .int 1 [(0, 1, (.tmp 21))], none⟩, ⟨some 23, .app .int 8 (.tmp 20) (.tmp 22), none⟩, ⟨some 10, .mov (.tmp 23), none⟩]) (.seq (.seq (.ops [⟨some 24, .mov (.tmp 0), none⟩, ⟨some 25, .una .not (.tmp 24), none⟩, ⟨some 0, .mov (.tmp 25), none⟩]) (.seq (.ops [⟨some 26, .mov (.tmp 0), none⟩]) (.cond (.tmp 26) (.draw [⟨some 27, .fadr 3 (.tmp 3), none⟩, ⟨some 28, .load 1 false (.tmp 27), none⟩, ⟨some 29, .mov (.tmp 11), none⟩, ⟨some 30, .iadr 3 (.tmp 28) (.tmp 29), none⟩, ⟨some 31, .fadr 1 (.tmp 30), none⟩, ⟨some 32, .load 1 false (.tmp 31), none⟩, ⟨some 33, .fadr 1 (.tmp 3), none⟩, ⟨some 34, .load 1 false (.tmp 33), none⟩, ⟨some 35, .bin .quo (.tmp 32) (.tmp 34), none⟩, ⟨some 1, .mov (.tmp 35), none⟩] (.held ⟨some 27, .fadr 3 (.tmp 3), none⟩ (.held ⟨some 28, .load 1 false (.tmp 27), none⟩ (.held ⟨some 29, .mov (.tmp 11), none⟩ (.held ⟨some 30, .iadr 3 (.tmp 28) (.tmp 29), none⟩ (.held ⟨some 31, .fadr 1 (.tmp 30), none⟩ (.held ⟨some 32, .load 1 false (.tmp 31), none⟩ (.held ⟨some 33, .fadr 1 (.tmp 3), none⟩ (.held ⟨some 34, .load 1 false (.tmp 33), none⟩ (.held ⟨some 35, .bin .quo (.tmp 32) (.tmp 34), none⟩ (.held ⟨some 1, .mov (.tmp 35), none⟩ .done))))))))))) (.draw [⟨some 36, .fadr 3 (.tmp 3), none⟩, ⟨some 37, .load 1 false (.tmp 36), none⟩, ⟨some 38, .mov (.tmp 11), none⟩, ⟨some 39, .iadr 3 (.tmp 37) (.tmp 38), none⟩, ⟨some 40, .fadr 0 (.tmp 39), none⟩, ⟨some 41, .load 1 false (.tmp 40), none⟩, ⟨some 42, .fadr 1 (.tmp 3), none⟩, ⟨some 43, .load 1 false (.tmp 42), none⟩, ⟨some 44, .bin .quo (.tmp 41) (.tmp 43), none⟩, ⟨some 1, .mov (.tmp 44), none⟩] (.held ⟨some 36, .fadr 3 (.tmp 3), none⟩ (.held ⟨some 37, .load 1 false (.tmp 36), none⟩ (.held ⟨some 38, .mov (.tmp 11), none⟩ (.held ⟨some 39, .iadr 3 (.tmp 37) (.tmp 38), none⟩ (.held ⟨some 40, .fadr 0 (.tmp 39), none⟩ (.held ⟨some 41, .load 1 false (.tmp 40), none⟩ (.held ⟨some 42, .fadr 1 (.tmp 3), none⟩ (.held ⟨some 43, .load 1 false (.tmp 42), none⟩ (.held ⟨some 44, .bin .quo (.tmp 41) (.tmp 43), none⟩ (.held ⟨some 1, .mov (.tmp 44), none⟩ .done)))))))))))))) (.ops [⟨some 45, .load 1 false (.tmp 4), none⟩, ⟨some 46, .load 1 false (.tmp 5), none⟩, ⟨some 47, .bin .add (.tmp 45) (.tmp 46), none⟩, ⟨some 48, .mov (.tmp 2), none⟩, ⟨some 49, .bin .sub (.tmp 47) (.tmp 48), none⟩, ⟨some 2, .mov (.tmp 49), none⟩]))))))))))
@[reducible] def rv51 : List RV := [.tmp 9]
theorem low51 : lowC Try.prog tau Try.f51.ntmps (Try.f51.body.getD .skip) = some (erase ic51) := by kernel_rfl
theorem res51 : lowR Try.prog Try.f51.results.toList = some rv51 := by kernel_rfl
theorem bod51 : Try.f51.body = some (Try.f51.body.getD .skip) := by kernel_rfl
theorem cal51 : callable Try.prog 51 = true := by kernel_rfl

end Go.Proofs.YtgmcijagaielaaaE

/-! The chain of paths that move, twice. -/
namespace Go.Proofs.YtgmcijagaielaaaE
open Go Go.RowKit
set_option linter.unusedSimpArgs false
set_option linter.unusedVariables false
set_option maxRecDepth 20000
set_option maxHeartbeats 4000000

def mvs (q : List Pth) (c : Int) (l : List Nat) : List Mv := l.map fun e => ⟨(q.getD e Pz).src, c - (q.getD e Pz).mid⟩
theorem mvs_len {q : List Pth} {c : Int} {l : List Nat} : (mvs q c l).length = l.length := by simp [mvs]
def ints (l : List Nat) : List Int := List.map (fun (e : Nat) => (Nat.cast e : Int)) l
theorem ints_len {l : List Nat} : (ints l).length = l.length := by simp [ints]
/-- What a chain's beginning needs. -/
structure ChPre (q : List Pth) (p : Int) (out : Bool) (side mid oth : Int) : Prop where
  p1 : 1 ≤ p
  sm : allSmall q
  pr : Proper q p
  ne : mid ≠ oth
  no : ∀ k, k < q.length → atP p out side oth (q.getD k Pz) = false
  b0 : 0 ≤ mid ∧ mid ≤ 100
  b1 : 0 ≤ oth ∧ oth ≤ 100
theorem chain_step {q : List Pth} {p : Int} {n : Nat} {out : Bool} {side mid oth : Int} {e : Nat} (h : fidx (atP p out side mid) q = (e : Int)) :
    chain q p (n + 1) out side mid oth = e :: chain q p n (!out) (sideAt p (!out) (q.getD e Pz)) oth mid := by
  rw [chain, h, if_neg (by omega), Int.toNat_natCast]
theorem chain_stop {q : List Pth} {p : Int} {n : Nat} {out : Bool} {side mid oth : Int} (h : fidx (atP p out side mid) q < 0) : chain q p n out side mid oth = [] := by
  cases n with
  | zero => rfl
  | succ n => rw [chain, if_pos h]
/-- How far a walk along a chain has come. -/
structure ChInv (q : List Pth) (p : Int) (l vis : List Nat) (out : Bool) (side mid oth c : Int) : Prop where
  eq : l = vis ++ chain q p (q.length + 1 - vis.length) out side mid oth
  le : l.length ≤ q.length
  sum : mid + oth = c
  b0 : 0 ≤ mid ∧ mid ≤ 100
  b1 : 0 ≤ oth ∧ oth ≤ 100
theorem ChInv.start {q : List Pth} {p : Int} {out : Bool} {side mid oth : Int} (h : ChPre q p out side mid oth) : ChInv q p (chain q p (q.length + 1) out side mid oth) [] out side mid oth (mid + oth) :=
  ⟨by simp, chain_wk.len h.pr h.ne h.no, rfl, h.b0, h.b1⟩
theorem ChInv.step {q : List Pth} {p : Int} {l vis : List Nat} {out : Bool} {side mid oth c : Int} (h : ChInv q p l vis out side mid oth c) {e : Nat} (he : fidx (atP p out side mid) q = (e : Int)) :
    ChInv q p l (vis ++ [e]) (!out) (sideAt p (!out) (q.getD e Pz)) oth mid c ∧ vis.length < q.length := by
  have hv : vis.length ≤ q.length := by have h1 := congrArg List.length h.eq; have := h.le; rw [List.length_append] at h1; omega
  obtain ⟨n, hn⟩ : ∃ n, q.length + 1 - vis.length = n + 1 := ⟨q.length - vis.length, by omega⟩
  have h1 := h.eq
  rw [hn, chain_step he] at h1
  have hlt : vis.length < q.length := by have h2 := congrArg List.length h1; have := h.le; rw [List.length_append, List.length_cons] at h2; omega
  refine ⟨⟨?_, h.le, by have := h.sum; omega, h.b1, h.b0⟩, hlt⟩
  rw [List.length_append, List.length_singleton, show q.length + 1 - (vis.length + 1) = n by omega, List.append_assoc]
  exact h1
theorem ChInv.stop {q : List Pth} {p : Int} {l vis : List Nat} {out : Bool} {side mid oth c : Int} (h : ChInv q p l vis out side mid oth c) (he : fidx (atP p out side mid) q < 0) : l = vis := by
  rw [h.eq, chain_stop he, List.append_nil]
theorem mvs_snoc {q : List Pth} {c : Int} {l : List Nat} {e : Nat} {x : Pth} (h : q.getD e Pz = x) : mvs q c (l ++ [e]) = mvs q c l ++ [⟨x.src, c - x.mid⟩] := by simp only [mvs, List.map_append, List.map_cons, List.map_nil, h]
theorem ints_snoc {l : List Nat} {e : Nat} : ints (l ++ [e]) = ints l ++ [(e : Int)] := by simp [ints]
def spChain : Spec := ⟨fun _ _ => [], fun args objs K => match args, objs with
  | [.agg [.v (.int .i64 s), .v (.int .i64 p), .v (.int .i64 m), .rs .path q], .v (.int .i64 at_), .v (.int .i64 here), .v (.int .i64 there), .v (.bool out)], [] =>
      ∃ side, (q.length ≤ 1099511627776 ∧ at_ = fidx (atP p out side here) q ∧ ChPre q p out side here there) ∧
      K (.sub 0 2 0 (chain q p (q.length + 1) out side here there).length) [(0, .row .move (mvs q (here + there) (chain q p (q.length + 1) out side here there)))] 1
  | _, _ => False, false⟩
theorem spChain_t {L : Hp} {a : List AVal} : Spec.take spChain L a = [] := id rfl
theorem spChain_k : Spec.keep spChain = false := id rfl
theorem spChain_f {s} {p} {m} {q} {at_} {here} {there} {out} {K : AVal → Hp → Nat → Prop} : Spec.f spChain ([.agg [.v (.int .i64 s), .v (.int .i64 p), .v (.int .i64 m), .rs .path q], .v (.int .i64 at_), .v (.int .i64 here), .v (.int .i64 there), .v (.bool out)]) ([]) K = (∃ side, (q.length ≤ 1099511627776 ∧ at_ = fidx (atP p out side here) q ∧ ChPre q p out side here there) ∧
      K (.sub 0 2 0 (chain q p (q.length + 1) out side here there).length) [(0, .row .move (mvs q (here + there) (chain q p (q.length + 1) out side here there)))] 1) := id rfl
theorem chS_t {L : Hp} {a : List AVal} : Spec.take spChain L a = [] := id rfl
theorem chS_k : Spec.keep spChain = false := id rfl
theorem valid48 : Valid Try.prog 48 spChain := by
  refine validI (Γ := lk [(44, spAt false), (45, spAt true)]) Try.func48 bod48 low48 res48 (good_of ⟨⟨cal44, valid44⟩, ⟨cal45, valid45⟩, trivial⟩) ?_
  intro E args objs K h hE hG hP
  simp only [spChain] at h
  split at h
  · refine ⟨by simp [Try.ntmps48], ?_⟩
    rename_i s p m q at_ here there out
    obtain ⟨side, ⟨b1, rfl, pre⟩, h⟩ := h
    have st := ChInv.start pre
    generalize chain q p (q.length + 1) out side here there = l at *
    generalize here + there = c at *
    have hp := pre.p1
    have hsm := pre.sm
    have pz : (p = 0) = False := eq_false (by omega)
    simp (config := { maxSteps := 2000000 }) only [go_sem, hG, hP, Nat.reduceEqDiff, ↓reduceIte, reduceCtorEq, Nat.reduceAdd, Nat.reduceSub, Nat.reduceMul, Nat.reduceLT, Nat.reduceLeDiff, Int.reduceAdd, Int.reduceSub, Int.reduceMul, Int.reduceLT, Int.reduceLE, Int.reduceEq, Int.reduceNeg, Int.reduceNe, Int.reduceGE, Int.reduceGT, Nat.reduceBEq, Int.reduceToNat]
    repeat (refine And.intro (by first | omega | (simp; done) | (simp; omega) | (unfold appRoom; omega)) ?_)
    refine loopI hE (fun i : List Nat × Bool × Int × Int × Int => ⟨[(1, .v (.int .i64 (fidx (atP p i.2.1 i.2.2.1 i.2.2.2.1) q))), (2, .v (.int .i64 i.2.2.2.1)), (3, .v (.int .i64 i.2.2.2.2)), (4, .v (.bool i.2.1)), (5, .ptr 0 0), (11, .sub 1 2 0 i.1.length)], [(0, .box [.v (.int .i64 s), .v (.int .i64 p), .v (.int .i64 m), .rs .path q]), (1, .row .move (mvs q c i.1))], 2, Try.f48.ntmps⟩) (fun i => ChInv q p l i.1 i.2.1 i.2.2.1 i.2.2.2.1 i.2.2.2.2 c) (fun i => q.length + 1 - i.1.length) ⟨([], out, side, here, there), st, SubS.weak ?_⟩ ?_
    · simp (config := { maxSteps := 2000000 }) only [go_sem, hG, hP, Nat.reduceEqDiff, ↓reduceIte, reduceCtorEq, Nat.reduceAdd, Nat.reduceSub, Nat.reduceMul, Nat.reduceLT, Nat.reduceLeDiff, Int.reduceAdd, Int.reduceSub, Int.reduceMul, Int.reduceLT, Int.reduceLE, Int.reduceEq, Int.reduceNeg, Int.reduceNe, Int.reduceGE, Int.reduceGT, Nat.reduceBEq, Int.reduceToNat,  mvs]
      repeat' (first | with_reducible rfl | (refine And.intro ?_ ?_) | (refine congrArg (Value.int _) ?_; omega) | omega)
    · rintro ⟨vis, o, sd, hr, th⟩ inv
      dsimp only at inv ⊢
      by_cases hf : 0 ≤ fidx (atP p o sd hr) q
      · have e0 : (fidx (atP p o sd hr) q ≥ 0) = True := eq_true hf
        obtain ⟨h1, h2, _⟩ := fidx_is hf
        obtain ⟨e, he⟩ : ∃ e : Nat, fidx (atP p o sd hr) q = (e : Int) := ⟨(fidx (atP p o sd hr) q).toNat, by omega⟩
        rw [he, Int.toNat_natCast] at h1 h2
        obtain ⟨st2, hlt⟩ := inv.step he
        have hmid := (atP_iff.1 h2).2
        obtain ⟨⟨hb1, hb2⟩, hb3, hb4⟩ := hsm e h1
        generalize hx : q.getD e Pz = x at *
        have w1 := wq hb1 (by omega) hp
        have w2 := wq hb3 (by omega) hp
        have hsum := inv.sum
        have htk : (mvs q c vis).take vis.length = mvs q c vis := List.take_of_length_le (by rw [mvs_len]; omega)
        have hms : mvs q c (vis ++ [e]) = mvs q c vis ++ [⟨x.src, th⟩] := by rw [mvs_snoc hx, show c - x.mid = th by omega]
        have e1 : ((e : Int) ≥ 0) = True := eq_true (by omega)
        cases o with
        | false =>
          simp (config := { maxSteps := 2000000 }) only [go_sem, hG, hP, Nat.reduceEqDiff, ↓reduceIte, reduceCtorEq, Nat.reduceAdd, Nat.reduceSub, Nat.reduceMul, Nat.reduceLT, Nat.reduceLeDiff, Int.reduceAdd, Int.reduceSub, Int.reduceMul, Int.reduceLT, Int.reduceLE, Int.reduceEq, Int.reduceNeg, Int.reduceNe, Int.reduceGE, Int.reduceGT, Nat.reduceBEq, Int.reduceToNat,  he, e1, hx, atS_t, atS_k, atS_f, w1, w2, pz, mvs_len]
          repeat (refine And.intro (by first | omega | (simp; done) | (simp; omega) | (unfold appRoom; omega)) ?_)
          refine ⟨⟨b1, hp, hsm⟩, (vis ++ [e], true, x.dst.tdiv p, th, hr), ⟨by exact st2, by simp; omega⟩, SubS.weak ?_⟩
          simp (config := { maxSteps := 2000000 }) only [go_sem, hG, hP, Nat.reduceEqDiff, ↓reduceIte, reduceCtorEq, Nat.reduceAdd, Nat.reduceSub, Nat.reduceMul, Nat.reduceLT, Nat.reduceLeDiff, Int.reduceAdd, Int.reduceSub, Int.reduceMul, Int.reduceLT, Int.reduceLE, Int.reduceEq, Int.reduceNeg, Int.reduceNe, Int.reduceGE, Int.reduceGT, Nat.reduceBEq, Int.reduceToNat,  hms]
          repeat' (first | with_reducible rfl | (refine And.intro ?_ ?_) | (refine congrArg (Value.int _) ?_; omega) | omega)
          all_goals (first | (simp; done) | exact htk | (rw [htk]; done))
        | true =>
          simp (config := { maxSteps := 2000000 }) only [go_sem, hG, hP, Nat.reduceEqDiff, ↓reduceIte, reduceCtorEq, Nat.reduceAdd, Nat.reduceSub, Nat.reduceMul, Nat.reduceLT, Nat.reduceLeDiff, Int.reduceAdd, Int.reduceSub, Int.reduceMul, Int.reduceLT, Int.reduceLE, Int.reduceEq, Int.reduceNeg, Int.reduceNe, Int.reduceGE, Int.reduceGT, Nat.reduceBEq, Int.reduceToNat,  he, e1, hx, atS_t, atS_k, atS_f, w1, w2, pz, mvs_len]
          repeat (refine And.intro (by first | omega | (simp; done) | (simp; omega) | (unfold appRoom; omega)) ?_)
          refine ⟨⟨b1, hp, hsm⟩, (vis ++ [e], false, x.src.tdiv p, th, hr), ⟨by exact st2, by simp; omega⟩, SubS.weak ?_⟩
          simp (config := { maxSteps := 2000000 }) only [go_sem, hG, hP, Nat.reduceEqDiff, ↓reduceIte, reduceCtorEq, Nat.reduceAdd, Nat.reduceSub, Nat.reduceMul, Nat.reduceLT, Nat.reduceLeDiff, Int.reduceAdd, Int.reduceSub, Int.reduceMul, Int.reduceLT, Int.reduceLE, Int.reduceEq, Int.reduceNeg, Int.reduceNe, Int.reduceGE, Int.reduceGT, Nat.reduceBEq, Int.reduceToNat,  hms]
          repeat' (first | with_reducible rfl | (refine And.intro ?_ ?_) | (refine congrArg (Value.int _) ?_; omega) | omega)
          all_goals (first | (simp; done) | exact htk | (rw [htk]; done))
      · have e0 : (fidx (atP p o sd hr) q ≥ 0) = False := eq_false (by omega)
        obtain rfl := inv.stop (by omega)
        simp (config := { maxSteps := 2000000 }) only [go_sem, hG, hP, Nat.reduceEqDiff, ↓reduceIte, reduceCtorEq, Nat.reduceAdd, Nat.reduceSub, Nat.reduceMul, Nat.reduceLT, Nat.reduceLeDiff, Int.reduceAdd, Int.reduceSub, Int.reduceMul, Int.reduceLT, Int.reduceLE, Int.reduceEq, Int.reduceNeg, Int.reduceNe, Int.reduceGE, Int.reduceGT, Nat.reduceBEq, Int.reduceToNat,  e0]
        refine ⟨_, _, _, ?_, h⟩
        simp (config := { maxSteps := 2000000 }) only [go_sem, hG, hP, Nat.reduceEqDiff, ↓reduceIte, reduceCtorEq, Nat.reduceAdd, Nat.reduceSub, Nat.reduceMul, Nat.reduceLT, Nat.reduceLeDiff, Int.reduceAdd, Int.reduceSub, Int.reduceMul, Int.reduceLT, Int.reduceLE, Int.reduceEq, Int.reduceNeg, Int.reduceNe, Int.reduceGE, Int.reduceGT, Nat.reduceBEq, Int.reduceToNat]
        repeat' (first | with_reducible rfl | (refine And.intro ?_ ?_) | (refine congrArg (Value.int _) ?_; omega) | omega)
  · exact h.elim
/-- The box of a Fabric with the row in it, and two boxes. -/
def takeCnH (L : Hp) : List AVal → List Nat
  | [_, _, _, .ptr m _, .ptr a _, .ptr b _] => match lk L m with
    | some (.box [_, _, _, .sub r _ _ _]) => [m, r, a, b]
    | _ => []
  | _ => []
def cnTk (m a b : Nat) : Option AObj → List Nat
  | some (.box [_, _, _, .sub r _ _ _]) => [m, r, a, b]
  | _ => []
theorem takeCnH_eq {L : Hp} {m a b i j k : Nat} {x y z : AVal} : takeCnH L [x, y, z, .ptr m i, .ptr a j, .ptr b k] = cnTk m a b (lk L m) := by
  simp only [takeCnH]; unfold cnTk; rfl
theorem cnTk_eq {m a b k z l n : Nat} {x y u : AVal} : cnTk m a b (some (.box [x, y, u, .sub k z l n])) = [m, k, a, b] := id rfl
def spChn : Spec := ⟨takeCnH, fun args objs K => match args, objs with
  | [.v (.bool out), .v (.int .i64 side), .v (.int .i64 mid), .ptr 0 0, .ptr 2 0, .ptr 3 0], [.box [.v (.int .i64 s), .v (.int .i64 p), .v (.int .i64 m), .sub 1 3 0 n], .row .path q, .box [.v (.int .i64 a)], .box [.v (.int .i64 b)]] =>
      (q.length ≤ 1099511627776 ∧ n = q.length ∧ ChPre q p out side mid (a + b - mid)) ∧
      K (.sub 4 1 0 (chain q p (q.length + 1) out side mid (a + b - mid)).length) [(0, .box [.v (.int .i64 s), .v (.int .i64 p), .v (.int .i64 m), .sub 1 3 0 n]), (1, .row .path q), (2, .box [.v (.int .i64 a)]), (3, .box [.v (.int .i64 b)]), (4, .row .int (ints (chain q p (q.length + 1) out side mid (a + b - mid))))] 5
  | _, _ => False, false⟩
theorem spChn_t {L : Hp} {a : List AVal} : Spec.take spChn L a = takeCnH L a := id rfl
theorem spChn_k : Spec.keep spChn = false := id rfl
theorem spChn_f {out} {side} {mid} {s} {p} {m} {n} {q} {a} {b} {K : AVal → Hp → Nat → Prop} : Spec.f spChn ([.v (.bool out), .v (.int .i64 side), .v (.int .i64 mid), .ptr 0 0, .ptr 2 0, .ptr 3 0]) ([.box [.v (.int .i64 s), .v (.int .i64 p), .v (.int .i64 m), .sub 1 3 0 n], .row .path q, .box [.v (.int .i64 a)], .box [.v (.int .i64 b)]]) K = ((q.length ≤ 1099511627776 ∧ n = q.length ∧ ChPre q p out side mid (a + b - mid)) ∧
      K (.sub 4 1 0 (chain q p (q.length + 1) out side mid (a + b - mid)).length) [(0, .box [.v (.int .i64 s), .v (.int .i64 p), .v (.int .i64 m), .sub 1 3 0 n]), (1, .row .path q), (2, .box [.v (.int .i64 a)]), (3, .box [.v (.int .i64 b)]), (4, .row .int (ints (chain q p (q.length + 1) out side mid (a + b - mid))))] 5) := id rfl
theorem valid51 : Valid Try.prog 51 spChn := by
  refine validI (Γ := lk [(52, spAtI)]) Try.func51 bod51 low51 res51 (good_of ⟨⟨cal52, valid52⟩, trivial⟩) ?_
  intro E args objs K h hE hG hP
  simp only [spChn] at h
  split at h
  · refine ⟨by simp [Try.ntmps51], ?_⟩
    rename_i out side mid s p m n q a b
    obtain ⟨⟨b1, rfl, pre⟩, h⟩ := h
    have st := ChInv.start pre
    have hp := pre.p1
    have hsm := pre.sm
    have pz : (p = 0) = False := eq_false (by omega)
    have hab : 0 ≤ a + b ∧ a + b ≤ 200 := by have := pre.b0; have := pre.b1; omega
    have wab : wr .i64 (a + b) = a + b := wrap_id (by omega) (by omega)
    rw [show mid + (a + b - mid) = a + b by omega] at st
    generalize chain q p (q.length + 1) out side mid (a + b - mid) = l at *
    have hoth : a + b - mid = a + b - mid := rfl
    generalize hth : a + b - mid = oth at *
    simp (config := { maxSteps := 2000000 }) only [go_sem, hG, hP, Nat.reduceEqDiff, ↓reduceIte, reduceCtorEq, Nat.reduceAdd, Nat.reduceSub, Nat.reduceMul, Nat.reduceLT, Nat.reduceLeDiff, Int.reduceAdd, Int.reduceSub, Int.reduceMul, Int.reduceLT, Int.reduceLE, Int.reduceEq, Int.reduceNeg, Int.reduceNe, Int.reduceGE, Int.reduceGT, Nat.reduceBEq, Int.reduceToNat]
    refine loopI hE (fun i : List Nat × Bool × Int × Int × Int => ⟨[(0, .v (.bool i.2.1)), (1, .v (.int .i64 i.2.2.1)), (2, .v (.int .i64 i.2.2.2.1)), (3, .ptr 0 0), (4, .ptr 2 0), (5, .ptr 3 0), (10, .sub 4 1 0 i.1.length)], [(0, .box [.v (.int .i64 s), .v (.int .i64 p), .v (.int .i64 m), .sub 1 3 0 q.length]), (1, .row .path q), (2, .box [.v (.int .i64 a)]), (3, .box [.v (.int .i64 b)]), (4, .row .int (ints i.1))], 5, Try.f51.ntmps⟩) (fun i => ChInv q p l i.1 i.2.1 i.2.2.1 i.2.2.2.1 i.2.2.2.2 (a + b)) (fun i => q.length + 1 - i.1.length) ⟨([], out, side, mid, oth), st, SubS.weak ?_⟩ ?_
    · simp (config := { maxSteps := 2000000 }) only [go_sem, hG, hP, Nat.reduceEqDiff, ↓reduceIte, reduceCtorEq, Nat.reduceAdd, Nat.reduceSub, Nat.reduceMul, Nat.reduceLT, Nat.reduceLeDiff, Int.reduceAdd, Int.reduceSub, Int.reduceMul, Int.reduceLT, Int.reduceLE, Int.reduceEq, Int.reduceNeg, Int.reduceNe, Int.reduceGE, Int.reduceGT, Nat.reduceBEq, Int.reduceToNat,  ints]
      repeat' (first | with_reducible rfl | (refine And.intro ?_ ?_) | (refine congrArg (Value.int _) ?_; omega) | omega)
    · rintro ⟨vis, o, sd, hr, th⟩ inv
      dsimp only at inv ⊢
      by_cases hf : 0 ≤ fidx (atP p o sd hr) q
      · obtain ⟨h1, h2, _⟩ := fidx_is hf
        obtain ⟨e, he⟩ : ∃ e : Nat, fidx (atP p o sd hr) q = (e : Int) := ⟨(fidx (atP p o sd hr) q).toNat, by omega⟩
        rw [he, Int.toNat_natCast] at h1 h2
        obtain ⟨st2, hlt⟩ := inv.step he
        obtain ⟨⟨hb1, hb2⟩, hb3, hb4⟩ := hsm e h1
        generalize hx : q.getD e Pz = x at *
        have w1 := wq hb1 (by omega) hp
        have w2 := wq hb3 (by omega) hp
        have hsum := inv.sum
        have hi0 := inv.b0
        have hi1 := inv.b1
        have htk : (ints vis).take vis.length = ints vis := List.take_of_length_le (by rw [ints_len]; omega)
        have hms := ints_snoc (l := vis) (e := e)
        have e1 : ((e : Int) < 0) = False := eq_false (by omega)
        have wm : wr .i64 (a + b - hr) = th := by rw [wrap_id (by omega) (by omega)]; omega
        cases o with
        | false =>
          simp (config := { maxSteps := 2000000 }) only [go_sem, hG, hP, Nat.reduceEqDiff, ↓reduceIte, reduceCtorEq, Nat.reduceAdd, Nat.reduceSub, Nat.reduceMul, Nat.reduceLT, Nat.reduceLeDiff, Int.reduceAdd, Int.reduceSub, Int.reduceMul, Int.reduceLT, Int.reduceLE, Int.reduceEq, Int.reduceNeg, Int.reduceNe, Int.reduceGE, Int.reduceGT, Nat.reduceBEq, Int.reduceToNat,  spAtI_f, spAtI_t, spAtI_k, he, e1, hx, w1, w2, pz, wab, wm, ints_len]
          repeat (refine And.intro (by first | omega | (simp; done) | (simp; omega) | (unfold appRoom; omega)) ?_)
          refine ⟨⟨b1, hp, hsm⟩, ?_⟩
          repeat (refine And.intro (by first | omega | (simp; done) | (simp; omega) | (unfold appRoom; omega)) ?_)
          refine ⟨(vis ++ [e], true, x.dst.tdiv p, th, hr), ⟨by exact st2, by simp; omega⟩, SubS.weak ?_⟩
          simp (config := { maxSteps := 2000000 }) only [go_sem, hG, hP, Nat.reduceEqDiff, ↓reduceIte, reduceCtorEq, Nat.reduceAdd, Nat.reduceSub, Nat.reduceMul, Nat.reduceLT, Nat.reduceLeDiff, Int.reduceAdd, Int.reduceSub, Int.reduceMul, Int.reduceLT, Int.reduceLE, Int.reduceEq, Int.reduceNeg, Int.reduceNe, Int.reduceGE, Int.reduceGT, Nat.reduceBEq, Int.reduceToNat,  hms]
          repeat' (first | with_reducible rfl | (refine And.intro ?_ ?_) | (refine congrArg (Value.int _) ?_; omega) | omega)
          all_goals (first | (simp; done) | exact htk | (rw [htk]; done))
        | true =>
          simp (config := { maxSteps := 2000000 }) only [go_sem, hG, hP, Nat.reduceEqDiff, ↓reduceIte, reduceCtorEq, Nat.reduceAdd, Nat.reduceSub, Nat.reduceMul, Nat.reduceLT, Nat.reduceLeDiff, Int.reduceAdd, Int.reduceSub, Int.reduceMul, Int.reduceLT, Int.reduceLE, Int.reduceEq, Int.reduceNeg, Int.reduceNe, Int.reduceGE, Int.reduceGT, Nat.reduceBEq, Int.reduceToNat,  spAtI_f, spAtI_t, spAtI_k, he, e1, hx, w1, w2, pz, wab, wm, ints_len]
          repeat (refine And.intro (by first | omega | (simp; done) | (simp; omega) | (unfold appRoom; omega)) ?_)
          refine ⟨⟨b1, hp, hsm⟩, ?_⟩
          repeat (refine And.intro (by first | omega | (simp; done) | (simp; omega) | (unfold appRoom; omega)) ?_)
          refine ⟨(vis ++ [e], false, x.src.tdiv p, th, hr), ⟨by exact st2, by simp; omega⟩, SubS.weak ?_⟩
          simp (config := { maxSteps := 2000000 }) only [go_sem, hG, hP, Nat.reduceEqDiff, ↓reduceIte, reduceCtorEq, Nat.reduceAdd, Nat.reduceSub, Nat.reduceMul, Nat.reduceLT, Nat.reduceLeDiff, Int.reduceAdd, Int.reduceSub, Int.reduceMul, Int.reduceLT, Int.reduceLE, Int.reduceEq, Int.reduceNeg, Int.reduceNe, Int.reduceGE, Int.reduceGT, Nat.reduceBEq, Int.reduceToNat,  hms]
          repeat' (first | with_reducible rfl | (refine And.intro ?_ ?_) | (refine congrArg (Value.int _) ?_; omega) | omega)
          all_goals (first | (simp; done) | exact htk | (rw [htk]; done))
      · have e0 : (fidx (atP p o sd hr) q < 0) = True := eq_true (by omega)
        obtain rfl := inv.stop (by omega)
        simp (config := { maxSteps := 2000000 }) only [go_sem, hG, hP, Nat.reduceEqDiff, ↓reduceIte, reduceCtorEq, Nat.reduceAdd, Nat.reduceSub, Nat.reduceMul, Nat.reduceLT, Nat.reduceLeDiff, Int.reduceAdd, Int.reduceSub, Int.reduceMul, Int.reduceLT, Int.reduceLE, Int.reduceEq, Int.reduceNeg, Int.reduceNe, Int.reduceGE, Int.reduceGT, Nat.reduceBEq, Int.reduceToNat,  spAtI_f, spAtI_t, spAtI_k, e0]
        refine ⟨⟨b1, hp, hsm⟩, _, _, _, ?_, h⟩
        simp (config := { maxSteps := 2000000 }) only [go_sem, hG, hP, Nat.reduceEqDiff, ↓reduceIte, reduceCtorEq, Nat.reduceAdd, Nat.reduceSub, Nat.reduceMul, Nat.reduceLT, Nat.reduceLeDiff, Int.reduceAdd, Int.reduceSub, Int.reduceMul, Int.reduceLT, Int.reduceLE, Int.reduceEq, Int.reduceNeg, Int.reduceNe, Int.reduceGE, Int.reduceGT, Nat.reduceBEq, Int.reduceToNat]
        repeat' (first | with_reducible rfl | (refine And.intro ?_ ?_) | (refine congrArg (Value.int _) ?_; omega) | omega)
  · exact h.elim
end Go.Proofs.YtgmcijagaielaaaE

/-! A path is put through, plainly. -/
namespace Go.Proofs.YtgmcijagaielaaaE
open Go Go.RowKit
set_option linter.unusedSimpArgs false
set_option linter.unusedVariables false
set_option maxRecDepth 20000

def swp (c : Int) (x : Pth) : Pth := ⟨x.src, x.dst, c - x.mid⟩
def recol (q : List Pth) (c : Int) (l : List Nat) : List Pth := (List.range q.length).map fun i => if i ∈ l then swp c (q.getD i Pz) else q.getD i Pz
theorem recol_len {q : List Pth} {c : Int} {l : List Nat} : (recol q c l).length = q.length := by simp [recol]
theorem recol_get {q : List Pth} {c : Int} {l : List Nat} {i : Nat} (h : i < q.length) : (recol q c l).getD i Pz = if i ∈ l then swp c (q.getD i Pz) else q.getD i Pz := by
  simp [recol, List.getD, h]
theorem recol_nil {q : List Pth} {c : Int} : recol q c [] = q := by
  apply List.ext_getElem?
  intro i
  by_cases h : i < q.length <;> simp [recol, h]
theorem recol_snoc {q : List Pth} {c : Int} {l : List Nat} {e : Nat} (he : e < q.length) : (recol q c l).set e (swp c (q.getD e Pz)) = recol q c (l ++ [e]) := by
  unfold recol
  apply List.ext_getElem?
  intro i
  rw [List.getElem?_set]
  by_cases h : i < q.length
  · by_cases e1 : e = i
    · subst e1
      rw [if_pos rfl, if_pos (by simpa using h), List.getElem?_map, List.getElem?_range h, Option.map_some, if_pos (by simp)]
    · rw [if_neg e1, List.getElem?_map, List.getElem?_map, List.getElem?_range h, Option.map_some, Option.map_some]
      have : (i ∈ l ++ [e]) = (i ∈ l) := by
        simp; intro e2; exact absurd e2.symm e1
      simp only [this]
  · simp [h]; omega
theorem take_snoc {l : List Nat} {j : Nat} (h : j < l.length) : l.take (j + 1) = l.take j ++ [l.getD j 0] := by
  rw [List.take_succ_eq_append_getElem h]; simp [List.getD, h]
theorem not_in_take {l : List Nat} (hd : ∀ s t, s < t → t < l.length → l.getD t 0 ≠ l.getD s 0) {j : Nat} (h : j < l.length) : l.getD j 0 ∉ l.take j := fun hm => by
  obtain ⟨s, hs, he⟩ := List.getElem_of_mem hm
  have h1 : s < j := by simp at hs; omega
  rw [List.getElem_take] at he
  apply hd s j h1 h
  simp only [List.getD, List.getElem?_eq_getElem h, Option.getD_some, List.getElem?_eq_getElem (show s < l.length by omega)] at he ⊢
  exact he.symm
theorem proper_of {d : Fb} (h : fbOk d = true) : Proper d.q d.p := by
  obtain ⟨_, h2⟩ := fbOk_is h
  have key : ∀ i j : Nat, j < d.q.length → i < j → ∀ out : Bool, sideAt d.p out (d.q.getD i Pz) = sideAt d.p out (d.q.getD j Pz) → (d.q.getD i Pz).mid ≠ (d.q.getD j Pz).mid := fun i j hj hij out hs hm => by
    apply (h2 j hj).2 i hij
    refine .inr (.inr ⟨hm, ?_⟩)
    cases out
    · exact .inl hs
    · exact .inr hs
  intro i j hi hj hne out hs hm
  rcases Nat.lt_or_gt_of_ne hne with h | h
  · exact key i j hj h out hs hm
  · exact key j i hi h out hs.symm hm.symm
theorem src_of {d : Fb} (h : fbOk d = true) {i j : Nat} (hi : i < d.q.length) (hj : j < d.q.length) (he : (d.q.getD i Pz).src = (d.q.getD j Pz).src) : i = j := by
  obtain ⟨_, h2⟩ := fbOk_is h
  rcases Nat.lt_trichotomy i j with h | h | h
  · exact absurd (.inl he) ((h2 j hj).2 i h)
  · exact h
  · exact absurd (.inl he.symm) ((h2 i hi).2 j h)
theorem freeI_iff {p i : Int} {q : List Pth} {k : Nat} (hi : 0 ≤ i) : freeP p q i (-1) k = decide (fidx (atP p false i k) q < 0) := by
  unfold freeP; rw [decide_eq_false (show ¬ i < 0 by omega), decide_eq_true (show (-1 : Int) < 0 by omega)]; simp
theorem freeO_iff {p o : Int} {q : List Pth} {k : Nat} (ho : 0 ≤ o) : freeP p q (-1) o k = decide (fidx (atP p true o k) q < 0) := by
  unfold freeP; rw [decide_eq_false (show ¬ o < 0 by omega), decide_eq_true (show (-1 : Int) < 0 by omega)]; simp
theorem freeB_iff {p i o : Int} {q : List Pth} {k : Nat} (hi : 0 ≤ i) (ho : 0 ≤ o) : freeP p q i o k = (decide (fidx (atP p false i k) q < 0) && decide (fidx (atP p true o k) q < 0)) := by
  unfold freeP; rw [decide_eq_false (show ¬ o < 0 by omega), decide_eq_false (show ¬ i < 0 by omega)]; simp
def okEnd (d : Fb) (x : Int) : Prop := 0 ≤ x ∧ x ≤ d.s * d.p - 1
instance {d : Fb} {x : Int} : Decidable (okEnd d x) := by unfold okEnd; infer_instance
def fmF (d : Fb) (x y : Int) : Int := leastI (freeP d.p d.q (x.tdiv d.p) (y.tdiv d.p)) d.m.toNat
def fmA (d : Fb) (x : Int) : Int := leastI (freeP d.p d.q (x.tdiv d.p) (-1)) d.m.toNat
def fmB (d : Fb) (y : Int) : Int := leastI (freeP d.p d.q (-1) (y.tdiv d.p)) d.m.toNat
def ch1 (d : Fb) (x y : Int) : List Nat := chain d.q d.p (d.q.length + 1) true (y.tdiv d.p) (fmA d x) (fmB d y)
def ch2 (d : Fb) (x y : Int) : List Nat := chain d.q d.p (d.q.length + 1) false (x.tdiv d.p) (fmB d y) (fmA d x)
def chL (d : Fb) (x y : Int) : List Nat := if (ch2 d x y).length < (ch1 d x y).length then ch2 d x y else ch1 d x y
def chM (d : Fb) (x y : Int) : Int := if (ch2 d x y).length < (ch1 d x y).length then fmB d y else fmA d x
/-- What Connect comes to: the paths, the moves, the code. -/
def conn (d : Fb) (x y : Int) : List Pth × List Mv × Int :=
  if fbOk d = true ∧ okEnd d x ∧ okEnd d y then
    if 0 ≤ fidx (endP x y) d.q then (d.q, [], 2)
    else if 0 ≤ fmF d x y then (d.q ++ [⟨x, y, fmF d x y⟩], [], 0)
    else if fmA d x < 0 ∨ fmB d y < 0 then (d.q, [], 3)
    else (recol d.q (fmA d x + fmB d y) (chL d x y) ++ [⟨x, y, chM d x y⟩], mvs d.q (fmA d x + fmB d y) (chL d x y), 0)
  else (d.q, [], 1)
theorem conn_bad {d : Fb} {x y : Int} (h : ¬ (fbOk d = true ∧ okEnd d x ∧ okEnd d y)) : conn d x y = (d.q, [], 1) := by unfold conn; rw [if_neg h]
theorem conn_busy {d : Fb} {x y : Int} (h : fbOk d = true ∧ okEnd d x ∧ okEnd d y) (h2 : 0 ≤ fidx (endP x y) d.q) : conn d x y = (d.q, [], 2) := by unfold conn; rw [if_pos h, if_pos h2]
theorem conn_free {d : Fb} {x y : Int} (h : fbOk d = true ∧ okEnd d x ∧ okEnd d y) (h2 : ¬ 0 ≤ fidx (endP x y) d.q) (h3 : 0 ≤ fmF d x y) : conn d x y = (d.q ++ [⟨x, y, fmF d x y⟩], [], 0) := by unfold conn; rw [if_pos h, if_neg h2, if_pos h3]
theorem conn_block {d : Fb} {x y : Int} (h : fbOk d = true ∧ okEnd d x ∧ okEnd d y) (h2 : ¬ 0 ≤ fidx (endP x y) d.q) (h3 : ¬ 0 ≤ fmF d x y) (h4 : fmA d x < 0 ∨ fmB d y < 0) : conn d x y = (d.q, [], 3) := by unfold conn; rw [if_pos h, if_neg h2, if_neg h3, if_pos h4]
theorem conn_move {d : Fb} {x y : Int} (h : fbOk d = true ∧ okEnd d x ∧ okEnd d y) (h2 : ¬ 0 ≤ fidx (endP x y) d.q) (h3 : ¬ 0 ≤ fmF d x y) (h4 : ¬ (fmA d x < 0 ∨ fmB d y < 0)) :
    conn d x y = (recol d.q (fmA d x + fmB d y) (chL d x y) ++ [⟨x, y, chM d x y⟩], mvs d.q (fmA d x + fmB d y) (chL d x y), 0) := by unfold conn; rw [if_pos h, if_neg h2, if_neg h3, if_neg h4]
theorem okEnd_q {d : Fb} {x : Int} (h : fbOk d = true) (hx : okEnd d x) : 0 ≤ x.tdiv d.p ∧ x.tdiv d.p ≤ 23 ∧ 0 ≤ x ∧ x ≤ 23 := by
  obtain ⟨⟨h1, h2, h3⟩, _⟩ := fbOk_is h
  have hsp := sp_bd ⟨h1, h2⟩
  obtain ⟨h4, h5⟩ := hx
  refine ⟨Int.tdiv_nonneg h4 (by omega), ?_, h4, by omega⟩
  have := Int.tdiv_le_self (b := d.p) h4; omega
/-- What is known where a chain is needed. -/
structure Mov (d : Fb) (x y : Int) : Prop where
  a0 : 0 ≤ fmA d x
  b0 : 0 ≤ fmB d y
  am : fmA d x < d.m
  bm : fmB d y < d.m
  ne : fmA d x ≠ fmB d y
  aF : ∀ k, k < d.q.length → atP d.p false (x.tdiv d.p) (fmA d x) (d.q.getD k Pz) = false
  bF : ∀ k, k < d.q.length → atP d.p true (y.tdiv d.p) (fmB d y) (d.q.getD k Pz) = false
  aU : 0 ≤ fidx (atP d.p true (y.tdiv d.p) (fmA d x)) d.q
  bU : 0 ≤ fidx (atP d.p false (x.tdiv d.p) (fmB d y)) d.q
theorem mov_of {d : Fb} {x y : Int} (h : fbOk d = true ∧ okEnd d x ∧ okEnd d y) (h3 : ¬ 0 ≤ fmF d x y) (h4 : ¬ (fmA d x < 0 ∨ fmB d y < 0)) : Mov d x y := by
  obtain ⟨hok, hx, hy⟩ := h
  obtain ⟨x0, _, _⟩ := okEnd_q hok hx
  obtain ⟨y0, _, _⟩ := okEnd_q hok hy
  obtain ⟨⟨_, _, hm⟩, _⟩ := fbOk_is hok
  have ha : 0 ≤ fmA d x := by omega
  have hb : 0 ≤ fmB d y := by omega
  obtain ⟨ja, a1, a2, a3, _⟩ := least_is ha
  obtain ⟨jb, b1, b2, b3, _⟩ := least_is hb
  have a2' : fmA d x = ja := a2
  have b2' : fmB d y = jb := b2
  rw [freeI_iff x0, decide_eq_true_eq] at a3
  rw [freeO_iff y0, decide_eq_true_eq] at b3
  have nof := least_no (P := freeP d.p d.q (x.tdiv d.p) (y.tdiv d.p)) (n := d.m.toNat) (by exact Int.not_le.1 h3)
  have aU : 0 ≤ fidx (atP d.p true (y.tdiv d.p) (ja : Int)) d.q := by
    have := nof ja a1
    rw [freeB_iff x0 y0, decide_eq_true a3, Bool.true_and, decide_eq_false_iff_not] at this; omega
  have bU : 0 ≤ fidx (atP d.p false (x.tdiv d.p) (jb : Int)) d.q := by
    have := nof jb b1
    rw [freeB_iff x0 y0, decide_eq_true b3, Bool.and_true, decide_eq_false_iff_not] at this; omega
  refine ⟨ha, hb, by omega, by omega, fun e => ?_, ?_, ?_, by rw [a2']; exact aU, by rw [b2']; exact bU⟩
  · rw [a2', b2'] at e; rw [e] at aU; omega
  · rw [a2']; exact fidx_no a3
  · rw [b2']; exact fidx_no b3
theorem Mov.pre1 {d : Fb} {x y : Int} (hok : fbOk d = true) (h : Mov d x y) : ChPre d.q d.p true (y.tdiv d.p) (fmA d x) (fmB d y) := by
  obtain ⟨⟨_, h2, hm⟩, _⟩ := fbOk_is hok
  have := h.a0; have := h.b0; have := h.am; have := h.bm
  exact ⟨h2.1, fbOk_small hok, proper_of hok, h.ne, h.bF, by omega, by omega⟩
theorem Mov.pre2 {d : Fb} {x y : Int} (hok : fbOk d = true) (h : Mov d x y) : ChPre d.q d.p false (x.tdiv d.p) (fmB d y) (fmA d x) := by
  obtain ⟨⟨_, h2, hm⟩, _⟩ := fbOk_is hok
  have := h.a0; have := h.b0; have := h.am; have := h.bm
  exact ⟨h2.1, fbOk_small hok, proper_of hok, h.ne.symm, h.aF, by omega, by omega⟩
/-- The chosen chain: bounds, no place twice. -/
structure ChOk (d : Fb) (l : List Nat) : Prop where
  bd : ∀ t, t < l.length → l.getD t 0 < d.q.length
  di : ∀ s t, s < t → t < l.length → l.getD t 0 ≠ l.getD s 0
  le : l.length ≤ d.q.length
theorem ChPre.ok {d : Fb} {out : Bool} {side mid oth : Int} (h : ChPre d.q d.p out side mid oth) : ChOk d (chain d.q d.p (d.q.length + 1) out side mid oth) :=
  ⟨chain_wk.bd, chain_wk.distinct h.pr h.ne h.no, chain_wk.len h.pr h.ne h.no⟩
theorem chL_ok {d : Fb} {x y : Int} (hok : fbOk d = true) (h : Mov d x y) : ChOk d (chL d x y) := by
  unfold chL; split
  · exact (h.pre2 hok).ok
  · exact (h.pre1 hok).ok
theorem conn_len {d : Fb} {x y : Int} : (conn d x y).1.length ≤ d.q.length + 1 ∧ (conn d x y).2.1.length ≤ d.q.length := by
  unfold conn
  split
  · split
    · simp
    · split
      · simp
      · split
        · simp
        · rename_i h1 h2 h3 h4
          have := (chL_ok h1.1 (mov_of h1 h3 h4)).le
          simp [recol_len, mvs_len]; exact this
  · simp
end Go.Proofs.YtgmcijagaielaaaE

/-! The code of a function, in the engine's words. -/
namespace Go.Proofs.YtgmcijagaielaaaE
open Go Go.RowKit
@[reducible] def ic24 : IC := (.seq (.ops [⟨some 3, .box (.tmp 0), none⟩, ⟨some 4, .box (.tmp 1), none⟩, ⟨some 5, .box (.tmp 2), none⟩, ⟨some 6, .new [(.int .i64 0), (.int .i64 0), (.int .i64 0), (.slice none 0 0)], none⟩, ⟨some 7, .mov (.const (.slice none 0 0)), none⟩, ⟨some 8, .mov (.const (.int .i64 0)), none⟩]) (.seq (.ops [⟨some 23, .load 4 true (.tmp 3), none⟩, ⟨some 24, .call 40 [(.tmp 23)], none⟩, ⟨none, .store 4 (.tmp 3) (.tmp 24), none⟩]) (.seq (.ops [⟨some 25, .fadr 0 (.tmp 3), none⟩, ⟨some 26, .load 1 false (.tmp 25), none⟩, ⟨some 27, .fadr 1 (.tmp 3), none⟩, ⟨some 28, .load 1 false (.tmp 27), none⟩, ⟨some 29, .bin .mul (.tmp 26) (.tmp 28), none⟩, ⟨some 30, .bin .sub (.tmp 29) (.const (.int .i64 1)), none⟩, ⟨some 9, .mov (.tmp 30), none⟩]) (.seq (.seq (.ops [⟨some 31, .load 4 true (.tmp 3), none⟩, ⟨some 32, .call 12 [(.tmp 31)], none⟩, ⟨some 33, .una .not (.tmp 32), none⟩, ⟨some 34, .mov (.tmp 33), none⟩, ⟨some 35, .load 1 false (.tmp 4), some (34, false)⟩, ⟨some 36, .mov (.tmp 9), some (34, false)⟩, ⟨some 37, .call 38 [(.tmp 35), (.const (.int .i64 0)), (.tmp 36)], some (34, false)⟩, ⟨some 38, .una .not (.tmp 37), some (34, false)⟩, ⟨some 39, .pick (.tmp 34) (.const (.bool true)) (.tmp 38), none⟩, ⟨some 40, .mov (.tmp 39), none⟩, ⟨some 41, .load 1 false (.tmp 5), some (40, false)⟩, ⟨some 42, .mov (.tmp 9), some (40, false)⟩, ⟨some 43, .call 38 [(.tmp 41), (.const (.int .i64 0)), (.tmp 42)], some (40, false)⟩, ⟨some 44, .una .not (.tmp 43), some (40, false)⟩, ⟨some 45, .pick (.tmp 40) (.const (.bool true)) (.tmp 44), none⟩]) (.cond (.tmp 45) (.seq (.ops [⟨some 46, .load 4 true (.tmp 3), none⟩, ⟨none, .store 4 (.tmp 6) (.tmp 46), none⟩, ⟨some 7, .mov (.const (.slice none 0 0)), none⟩, ⟨some 8, .mov (.const (.int .i64 1)), none⟩]) .ret) .skip)) (.seq (.seq (.ops [⟨some 47, .fadr 3 (.tmp 3), none⟩, ⟨some 48, .load 1 false (.tmp 47), none⟩, ⟨some 49, .mfn 50 [(.tmp 4), (.tmp 5)], none⟩, ⟨some 50, .call 49 [(.tmp 48), (.tmp 49)], none⟩]) (.cond (.tmp 50) (.seq (.ops [⟨some 51, .load 4 true (.tmp 3), none⟩, ⟨none, .store 4 (.tmp 6) (.tmp 51), none⟩, ⟨some 7, .mov (.const (.slice none 0 0)), none⟩, ⟨some 8, .mov (.const (.int .i64 2)), none⟩]) .ret) .skip)) (.seq (.draw [⟨some 52, .load 1 false (.tmp 4), none⟩, ⟨some 53, .fadr 1 (.tmp 3), none⟩, ⟨some 54, .load 1 false (.tmp 53), none⟩, ⟨some 55, .bin .quo (.tmp 52) (.tmp 54), none⟩, ⟨some 56, .load 1 false (.tmp 5), none⟩, ⟨some 57, .fadr 1 (.tmp 3), none⟩, ⟨some 58, .load 1 false (.tmp 57), none⟩, ⟨some 59, .bin .quo (.tmp 56) (.tmp 58), none⟩, ⟨some 10, .mov (.tmp 55), none⟩, ⟨some 11, .mov (.tmp 59), none⟩] (.held ⟨some 52, .load 1 false (.tmp 4), none⟩ (.held ⟨some 53, .fadr 1 (.tmp 3), none⟩ (.held ⟨some 54, .load 1 false (.tmp 53), none⟩ (.held ⟨some 55, .bin .quo (.tmp 52) (.tmp 54), none⟩ (.held ⟨some 56, .load 1 false (.tmp 5), none⟩ (.held ⟨some 57, .fadr 1 (.tmp 3), none⟩ (.held ⟨some 58, .load 1 false (.tmp 57), none⟩ (.held ⟨some 59, .bin .quo (.tmp 56) (.tmp 58), none⟩ (.held ⟨some 10, .mov (.tmp 55), none⟩ (.held ⟨some 11, .mov (.tmp 59), none⟩ .done))))))))))) (.seq (.seq (.ops [⟨some 60, .load 4 true (.tmp 3), none⟩, ⟨some 61, .mov (.tmp 10), none⟩, ⟨some 62, .mov (.tmp 11), none⟩, ⟨some 63, .call 46 [(.tmp 60), (.tmp 61), (.tmp 62)], none⟩, ⟨some 12, .mov (.tmp 63), none⟩]) (.seq (.ops [⟨some 64, .mov (.tmp 12), none⟩, ⟨some 65, .bin .geq (.tmp 64) (.const (.int .i64 0)), none⟩]) (.cond (.tmp 65) (.seq (.ops [⟨some 66, .fadr 3 (.tmp 3), none⟩, ⟨some 67, .load 1 false (.tmp 66), none⟩, ⟨some 68, .load 1 false (.tmp 4), none⟩, ⟨some 69, .load 1 false (.tmp 5), none⟩, ⟨some 70, .mov (.tmp 12), none⟩, ⟨some 71, .bld [(.int .i64 0), (.int .i64 0), (.int .i64 0)] [(0, 1, (.tmp 68)), (1, 1, (.tmp 69)), (2, 1, (.tmp 70))], none⟩, ⟨some 72, .blds .path 1 [(0, 3, (.tmp 71))], none⟩, ⟨some 73, .app .path 24 (.tmp 67) (.tmp 72), none⟩, ⟨some 74, .fadr 3 (.tmp 3), none⟩, ⟨none, .store 1 (.tmp 74) (.tmp 73), none⟩]) (.seq (.ops [⟨some 75, .load 4 true (.tmp 3), none⟩, ⟨none, .store 4 (.tmp 6) (.tmp 75), none⟩, ⟨some 7, .mov (.const (.slice none 0 0)), none⟩, ⟨some 8, .mov (.const (.int .i64 0)), none⟩]) .ret)) .skip))) (.seq (.draw [⟨some 76, .load 4 true (.tmp 3), none⟩, ⟨some 77, .mov (.tmp 10), none⟩, ⟨some 78, .call 46 [(.tmp 76), (.tmp 77), (.const (.int .i64 (-1)))], none⟩, ⟨some 79, .load 4 true (.tmp 3), none⟩, ⟨some 80, .mov (.tmp 11), none⟩, ⟨some 81, .call 46 [(.tmp 79), (.const (.int .i64 (-1))), (.tmp 80)], none⟩, ⟨some 13, .new [(.int .i64 0)], none⟩, ⟨some 14, .new [(.int .i64 0)], none⟩, ⟨none, .store 1 (.tmp 13) (.tmp 78), none⟩, ⟨none, .store 1 (.tmp 14) (.tmp 81), none⟩] (.held ⟨some 76, .load 4 true (.tmp 3), none⟩ (.held ⟨some 77, .mov (.tmp 10), none⟩ (.held ⟨some 79, .load 4 true (.tmp 3), none⟩ (.held ⟨some 80, .mov (.tmp 11), none⟩ (.alt ⟨some 78, .call 46 [(.tmp 76), (.tmp 77), (.const (.int .i64 (-1)))], none⟩ (.alt ⟨some 81, .call 46 [(.tmp 79), (.const (.int .i64 (-1))), (.tmp 80)], none⟩ (.alt ⟨some 13, .new [(.int .i64 0)], none⟩ (.alt ⟨some 14, .new [(.int .i64 0)], none⟩ (.alt ⟨none, .store 1 (.tmp 13) (.tmp 78), none⟩ (.alt ⟨none, .store 1 (.tmp 14) (.tmp 81), none⟩ .done .stop) .stop) .stop) (.alt ⟨some 14, .new [(.int .i64 0)], none⟩ (.alt ⟨some 13, .new [(.int .i64 0)], none⟩ (.alt ⟨none, .store 1 (.tmp 13) (.tmp 78), none⟩ (.alt ⟨none, .store 1 (.tmp 14) (.tmp 81), none⟩ .done .stop) .stop) .stop) .stop)) (.alt ⟨some 13, .new [(.int .i64 0)], none⟩ (.alt ⟨some 81, .call 46 [(.tmp 79), (.const (.int .i64 (-1))), (.tmp 80)], none⟩ (.alt ⟨some 14, .new [(.int .i64 0)], none⟩ (.alt ⟨none, .store 1 (.tmp 13) (.tmp 78), none⟩ (.alt ⟨none, .store 1 (.tmp 14) (.tmp 81), none⟩ .done .stop) .stop) .stop) (.alt ⟨some 14, .new [(.int .i64 0)], none⟩ (.alt ⟨some 81, .call 46 [(.tmp 79), (.const (.int .i64 (-1))), (.tmp 80)], none⟩ (.alt ⟨none, .store 1 (.tmp 13) (.tmp 78), none⟩ (.alt ⟨none, .store 1 (.tmp 14) (.tmp 81), none⟩ .done .stop) .stop) .stop) .stop)) (.alt ⟨some 14, .new [(.int .i64 0)], none⟩ (.alt ⟨some 81, .call 46 [(.tmp 79), (.const (.int .i64 (-1))), (.tmp 80)], none⟩ (.alt ⟨some 13, .new [(.int .i64 0)], none⟩ (.alt ⟨none, .store 1 (.tmp 13) (.tmp 78), none⟩ (.alt ⟨none, .store 1 (.tmp 14) (.tmp 81), none⟩ .done .stop) .stop) .stop) (.alt ⟨some 13, .new [(.int .i64 0)], none⟩ (.alt ⟨some 81, .call 46 [(.tmp 79), (.const (.int .i64 (-1))), (.tmp 80)], none⟩ (.alt ⟨none, .store 1 (.tmp 13) (.tmp 78), none⟩ (.alt ⟨none, .store 1 (.tmp 14) (.tmp 81), none⟩ .done .stop) .stop) .stop) .stop)) .stop))) (.alt ⟨some 13, .new [(.int .i64 0)], none⟩ (.alt ⟨some 78, .call 46 [(.tmp 76), (.tmp 77), (.const (.int .i64 (-1)))], none⟩ (.alt ⟨some 81, .call 46 [(.tmp 79), (.const (.int .i64 (-1))), (.tmp 80)], none⟩ (.alt ⟨some 14, .new [(.int .i64 0)], none⟩ (.alt ⟨none, .store 1 (.tmp 13) (.tmp 78), none⟩ (.alt ⟨none, .store 1 (.tmp 14) (.tmp 81), none⟩ .done .stop) .stop) .stop) (.alt ⟨some 14, .new [(.int .i64 0)], none⟩ (.alt ⟨some 81, .call 46 [(.tmp 79), (.const (.int .i64 (-1))), (.tmp 80)], none⟩ (.alt ⟨none, .store 1 (.tmp 13) (.tmp 78), none⟩ (.alt ⟨none, .store 1 (.tmp 14) (.tmp 81), none⟩ .done .stop) .stop) .stop) .stop)) (.alt ⟨some 14, .new [(.int .i64 0)], none⟩ (.alt ⟨some 78, .call 46 [(.tmp 76), (.tmp 77), (.const (.int .i64 (-1)))], none⟩ (.alt ⟨some 81, .call 46 [(.tmp 79), (.const (.int .i64 (-1))), (.tmp 80)], none⟩ (.alt ⟨none, .store 1 (.tmp 13) (.tmp 78), none⟩ (.alt ⟨none, .store 1 (.tmp 14) (.tmp 81), none⟩ .done .stop) .stop) .stop) .stop) .stop)) (.alt ⟨some 14, .new [(.int .i64 0)], none⟩ (.alt ⟨some 78, .call 46 [(.tmp 76), (.tmp 77), (.const (.int .i64 (-1)))], none⟩ (.alt ⟨some 81, .call 46 [(.tmp 79), (.const (.int .i64 (-1))), (.tmp 80)], none⟩ (.alt ⟨some 13, .new [(.int .i64 0)], none⟩ (.alt ⟨none, .store 1 (.tmp 13) (.tmp 78), none⟩ (.alt ⟨none, .store 1 (.tmp 14) (.tmp 81), none⟩ .done .stop) .stop) .stop) (.alt ⟨some 13, .new [(.int .i64 0)], none⟩ (.alt ⟨some 81, .call 46 [(.tmp 79), (.const (.int .i64 (-1))), (.tmp 80)], none⟩ (.alt ⟨none, .store 1 (.tmp 13) (.tmp 78), none⟩ (.alt ⟨none, .store 1 (.tmp 14) (.tmp 81), none⟩ .done .stop) .stop) .stop) .stop)) (.alt ⟨some 13, .new [(.int .i64 0)], none⟩ (.alt ⟨some 78, .call 46 [(.tmp 76), (.tmp 77), (.const (.int .i64 (-1)))], none⟩ (.alt ⟨some 81, .call 46 [(.tmp 79), (.const (.int .i64 (-1))), (.tmp 80)], none⟩ (.alt ⟨none, .store 1 (.tmp 13) (.tmp 78), none⟩ (.alt ⟨none, .store 1 (.tmp 14) (.tmp 81), none⟩ .done .stop) .stop) .stop) .stop) .stop)) .stop)))))))) (.seq (.seq (.ops [⟨some 82, .load 1 false (.tmp 13), none⟩, ⟨some 83, .bin .lss (.tmp 82) (.const (.int .i64 0)), none⟩, ⟨some 84, .mov (.tmp 83), none⟩, ⟨some 85, .load 1 false (.tmp 14), some (84, false)⟩, ⟨some 86, .bin .lss (.tmp 85) (.const (.int .i64 0)), some (84, false)⟩, ⟨some 87, .pick (.tmp 84) (.const (.bool true)) (.tmp 86), none⟩]) (.cond (.tmp 87) (.seq (.ops [⟨some 88, .load 4 true (.tmp 3), none⟩, ⟨none, .store 4 (.tmp 6) (.tmp 88), none⟩, ⟨some 7, .mov (.const (.slice none 0 0)), none⟩, ⟨some 8, .mov (.const (.int .i64 3)), none⟩]) .ret) .skip)) (.seq (.ops [⟨some 89, .mfn 51 [(.tmp 3), (.tmp 13), (.tmp 14)], none⟩, ⟨some 15, .mov (.tmp 89), none⟩]) (.seq (.draw [⟨some 90, .mov (.tmp 15), none⟩, ⟨some 91, .mov (.tmp 11), none⟩, ⟨some 92, .load 1 false (.tmp 13), none⟩, ⟨some 93, .callv (.tmp 90) [(.const (.bool true)), (.tmp 91), (.tmp 92)], none⟩, ⟨some 94, .load 1 false (.tmp 13), none⟩, ⟨some 16, .mov (.tmp 93), none⟩, ⟨some 17, .mov (.tmp 94), none⟩] (.held ⟨some 90, .mov (.tmp 15), none⟩ (.held ⟨some 91, .mov (.tmp 11), none⟩ (.held ⟨some 92, .load 1 false (.tmp 13), none⟩ (.alt ⟨some 93, .callv (.tmp 90) [(.const (.bool true)), (.tmp 91), (.tmp 92)], none⟩ (.held ⟨some 94, .load 1 false (.tmp 13), none⟩ (.held ⟨some 16, .mov (.tmp 93), none⟩ (.held ⟨some 17, .mov (.tmp 94), none⟩ .done))) (.alt ⟨some 94, .load 1 false (.tmp 13), none⟩ (.alt ⟨some 93, .callv (.tmp 90) [(.const (.bool true)), (.tmp 91), (.tmp 92)], none⟩ (.held ⟨some 16, .mov (.tmp 93), none⟩ (.held ⟨some 17, .mov (.tmp 94), none⟩ .done)) .stop) .stop)))))) (.seq (.seq (.ops [⟨some 95, .mov (.tmp 15), none⟩, ⟨some 96, .mov (.tmp 10), none⟩, ⟨some 97, .load 1 false (.tmp 14), none⟩, ⟨some 98, .callv (.tmp 95) [(.const (.bool false)), (.tmp 96), (.tmp 97)], none⟩, ⟨some 18, .mov (.tmp 98), none⟩]) (.seq (.ops [⟨some 99, .mov (.tmp 18), none⟩, ⟨some 100, .len (.tmp 99), none⟩, ⟨some 101, .mov (.tmp 16), none⟩, ⟨some 102, .len (.tmp 101), none⟩, ⟨some 103, .bin .lss (.tmp 100) (.tmp 102), none⟩]) (.cond (.tmp 103) (.draw [⟨some 104, .mov (.tmp 18), none⟩, ⟨some 105, .load 1 false (.tmp 14), none⟩, ⟨some 16, .mov (.tmp 104), none⟩, ⟨some 17, .mov (.tmp 105), none⟩] (.held ⟨some 104, .mov (.tmp 18), none⟩ (.held ⟨some 105, .load 1 false (.tmp 14), none⟩ (.held ⟨some 16, .mov (.tmp 104), none⟩ (.held ⟨some 17, .mov (.tmp 105), none⟩ .done))))) .skip))) (.seq (.ops [⟨some 19, .mov (.const (.slice none 0 0)), none⟩]) (.seq (.seq (.ops [⟨some 106, .mov (.tmp 16), none⟩, ⟨some 107, .len (.tmp 106), none⟩, ⟨some 108, .mov (.const (.int .i64 0)), none⟩]) (.block 0 (.loop (.seq (.ops [⟨some 109, .bin .lss (.tmp 108) (.tmp 107), none⟩]) (.seq (.cond (.tmp 109) .skip (.exit 0)) (.seq (.block 1 (.seq (.ops [⟨some 110, .iadr 1 (.tmp 106) (.tmp 108), none⟩, ⟨some 111, .load 1 false (.tmp 110), none⟩, ⟨some 21, .mov (.tmp 111), none⟩]) (.seq (.ops [⟨some 112, .fadr 3 (.tmp 3), none⟩, ⟨some 113, .load 1 false (.tmp 112), none⟩, ⟨some 114, .mov (.tmp 21), none⟩, ⟨some 115, .iadr 3 (.tmp 113) (.tmp 114), none⟩, ⟨some 22, .mov (.tmp 115), none⟩]) (.seq (.draw [⟨some 116, .mov (.tmp 22), none⟩, ⟨some 117, .load 1 false (.tmp 13), none⟩, ⟨some 118, .load 1 false (.tmp 14), none⟩, ⟨some 119, .bin .add (.tmp 117) (.tmp 118), none⟩, ⟨some 120, .mov (.tmp 22), none⟩, ⟨some 121, .nilc (.tmp 120), none⟩, ⟨some 122, .fadr 2 (.tmp 121), none⟩, ⟨some 123, .load 1 false (.tmp 122), none⟩, ⟨some 124, .bin .sub (.tmp 119) (.tmp 123), none⟩, ⟨some 125, .nilc (.tmp 116), none⟩, ⟨some 126, .fadr 2 (.tmp 125), none⟩, ⟨none, .store 1 (.tmp 126) (.tmp 124), none⟩] (.held ⟨some 116, .mov (.tmp 22), none⟩ (.held ⟨some 117, .load 1 false (.tmp 13), none⟩ (.held ⟨some 118, .load 1 false (.tmp 14), none⟩ (.held ⟨some 119, .bin .add (.tmp 117) (.tmp 118), none⟩ (.held ⟨some 120, .mov (.tmp 22), none⟩ (.held ⟨some 121, .nilc (.tmp 120), none⟩ (.held ⟨some 122, .fadr 2 (.tmp 121), none⟩ (.held ⟨some 123, .load 1 false (.tmp 122), none⟩ (.held ⟨some 124, .bin .sub (.tmp 119) (.tmp 123), none⟩ (.held ⟨some 125, .nilc (.tmp 116), none⟩ (.held ⟨some 126, .fadr 2 (.tmp 125), none⟩ (.alt ⟨none, .store 1 (.tmp 126) (.tmp 124), none⟩ .done .stop))))))))))))) (.draw [⟨some 127, .mov (.tmp 19), none⟩, ⟨some 128, .mov (.tmp 22), none⟩, ⟨some 129, .nilc (.tmp 128), none⟩, ⟨some 130, .fadr 0 (.tmp 129), none⟩, ⟨some 131, .load 1 false (.tmp 130), none⟩, ⟨some 132, .mov (.tmp 22), none⟩, ⟨some 133, .nilc (.tmp 132), none⟩, ⟨some 134, .fadr 2 (.tmp 133), none⟩, ⟨some 135, .load 1 false (.tmp 134), none⟩, ⟨some 136, .bld [(.int .i64 0), (.int .i64 0)] [(0, 1, (.tmp 131)), (1, 1, (.tmp 135))], none⟩, ⟨some 137, .blds .move 1 [(0, 2, (.tmp 136))], none⟩, ⟨some 138, .app .move 16 (.tmp 127) (.tmp 137), none⟩, ⟨some 19, .mov (.tmp 138), none⟩] (.held ⟨some 127, .mov (.tmp 19), none⟩ (.held ⟨some 128, .mov (.tmp 22), none⟩ (.held ⟨some 129, .nilc (.tmp 128), none⟩ (.held ⟨some 130, .fadr 0 (.tmp 129), none⟩ (.held ⟨some 131, .load 1 false (.tmp 130), none⟩ (.held ⟨some 132, .mov (.tmp 22), none⟩ (.held ⟨some 133, .nilc (.tmp 132), none⟩ (.held ⟨some 134, .fadr 2 (.tmp 133), none⟩ (.held ⟨some 135, .load 1 false (.tmp 134), none⟩ (.held ⟨some 136, .bld [(.int .i64 0), (.int .i64 0)] [(0, 1, (.tmp 131)), (1, 1, (.tmp 135))], none⟩ (.alt ⟨some 137, .blds .move 1 [(0, 2, (.tmp 136))], none⟩ (.alt ⟨some 138, .app .move 16 (.tmp 127) (.tmp 137), none⟩ (.held ⟨some 19, .mov (.tmp 138), none⟩ .done) .stop) .stop)))))))))))))))) (.ops [⟨some 139, .bin .add (.tmp 108) (.const (.int .i64 1)), none⟩, ⟨some 108, .mov (.tmp 139), none⟩]))))))) (.seq (.ops [⟨some 140, .fadr 3 (.tmp 3), none⟩, ⟨some 141, .load 1 false (.tmp 140), none⟩, ⟨some 142, .load 1 false (.tmp 4), none⟩, ⟨some 143, .load 1 false (.tmp 5), none⟩, ⟨some 144, .mov (.tmp 17), none⟩, ⟨some 145, .bld [(.int .i64 0), (.int .i64 0), (.int .i64 0)] [(0, 1, (.tmp 142)), (1, 1, (.tmp 143)), (2, 1, (.tmp 144))], none⟩, ⟨some 146, .blds .path 1 [(0, 3, (.tmp 145))], none⟩, ⟨some 147, .app .path 24 (.tmp 141) (.tmp 146), none⟩, ⟨some 148, .fadr 3 (.tmp 3), none⟩, ⟨none, .store 1 (.tmp 148) (.tmp 147), none⟩]) (.seq (.ops [⟨some 149, .load 4 true (.tmp 3), none⟩, ⟨some 150, .mov (.tmp 19), none⟩, ⟨none, .store 4 (.tmp 6) (.tmp 149), none⟩, ⟨some 7, .mov (.tmp 150), none⟩, ⟨some 8, .mov (.const (.int .i64 0)), none⟩]) .ret))))))))))))))))
@[reducible] def rv24 : List RV := [.cell 6 4 true, .tmp 7, .tmp 8]
theorem low24 : lowC Try.prog tau Try.f24.ntmps (Try.f24.body.getD .skip) = some (erase ic24) := by kernel_rfl
theorem res24 : lowR Try.prog Try.f24.results.toList = some rv24 := by kernel_rfl
theorem bod24 : Try.f24.body = some (Try.f24.body.getD .skip) := by kernel_rfl
theorem cal24 : callable Try.prog 24 = true := by kernel_rfl

end Go.Proofs.YtgmcijagaielaaaE

/-! A path is put through, in the program. -/
namespace Go.Proofs.YtgmcijagaielaaaE
open Go Go.RowKit
set_option linter.unusedSimpArgs false
set_option linter.unusedVariables false
set_option maxRecDepth 20000
set_option maxHeartbeats 8000000

def spConn : Spec := ⟨fun _ _ => [], fun args objs K => match args, objs with
  | [.agg [.v (.int .i64 s), .v (.int .i64 p), .v (.int .i64 m), .rs .path q], .v (.int .i64 x), .v (.int .i64 y)], [] => q.length ≤ 1099511627775 ∧ K (.tup [.agg [.v (.int .i64 s), .v (.int .i64 p), .v (.int .i64 m), .sub 0 3 0 (conn ⟨s, p, m, q⟩ x y).1.length], .sub 1 2 0 (conn ⟨s, p, m, q⟩ x y).2.1.length, .v (.int .i64 (conn ⟨s, p, m, q⟩ x y).2.2)]) [(0, .row .path (conn ⟨s, p, m, q⟩ x y).1), (1, .row .move (conn ⟨s, p, m, q⟩ x y).2.1)] 2
  | _, _ => False, false⟩
theorem spConn_t {L : Hp} {a : List AVal} : Spec.take spConn L a = [] := id rfl
theorem spConn_k : Spec.keep spConn = false := id rfl
theorem spConn_f {s} {p} {m} {q} {x} {y} {K : AVal → Hp → Nat → Prop} : Spec.f spConn ([.agg [.v (.int .i64 s), .v (.int .i64 p), .v (.int .i64 m), .rs .path q], .v (.int .i64 x), .v (.int .i64 y)]) ([]) K = (q.length ≤ 1099511627775 ∧ K (.tup [.agg [.v (.int .i64 s), .v (.int .i64 p), .v (.int .i64 m), .sub 0 3 0 (conn ⟨s, p, m, q⟩ x y).1.length], .sub 1 2 0 (conn ⟨s, p, m, q⟩ x y).2.1.length, .v (.int .i64 (conn ⟨s, p, m, q⟩ x y).2.2)]) [(0, .row .path (conn ⟨s, p, m, q⟩ x y).1), (1, .row .move (conn ⟨s, p, m, q⟩ x y).2.1)] 2) := id rfl
theorem ints_get {l : List Nat} {j : Nat} (h : j < l.length) : (ints l).getD j 0 = ((l.getD j 0 : Nat) : Int) := by simp [ints, List.getD, h]
theorem swp_eq {c : Int} {x : Pth} : swp c x = ⟨x.src, x.dst, c - x.mid⟩ := id rfl
theorem valid24 : Valid Try.prog 24 spConn := by
  refine validI (Γ := lk [(40, spToFb), (12, spFbOk), (38, spIn), (49, spHas), (46, spFree), (51, spChn)]) Try.func24 bod24 low24 res24 (good_of ⟨⟨cal40, valid40⟩, ⟨cal12, valid12⟩, ⟨cal38, valid38⟩, ⟨cal49, valid49⟩, ⟨cal46, valid46⟩, ⟨cal51, valid51⟩, trivial⟩) ?_
  intro E args objs K h hE hG hP
  simp only [spConn] at h
  split at h
  · refine ⟨by simp [Try.ntmps24], ?_⟩
    rename_i s p m q x y
    obtain ⟨b1, h⟩ := h
    rcases hok : fbOk ⟨s, p, m, q⟩ with _ | _
    · rw [conn_bad (by rw [hok]; simp)] at h
      simp (config := { maxSteps := 2000000 }) only [go_sem, hG, hP, Nat.reduceEqDiff, ↓reduceIte, reduceCtorEq, Nat.reduceAdd, Nat.reduceSub, Nat.reduceMul, Nat.reduceLT, Nat.reduceLeDiff, Int.reduceAdd, Int.reduceSub, Int.reduceMul, Int.reduceLT, Int.reduceLE, Int.reduceEq, Int.reduceNeg, Int.reduceNe, Int.reduceGE, Int.reduceGT, Nat.reduceBEq, Int.reduceToNat,  spToFb_f, spToFb_t, spToFb_k, spFbOk_f, spFbOk_t, spFbOk_k, spIn_f, spIn_t, spIn_k, hok]
      repeat (refine And.intro (by first | omega | (simp; done) | (simp; omega) | (unfold appRoom; omega)) ?_)
      refine ⟨_, _, _, ?_, h⟩
      simp (config := { maxSteps := 2000000 }) only [go_sem, hG, hP, Nat.reduceEqDiff, ↓reduceIte, reduceCtorEq, Nat.reduceAdd, Nat.reduceSub, Nat.reduceMul, Nat.reduceLT, Nat.reduceLeDiff, Int.reduceAdd, Int.reduceSub, Int.reduceMul, Int.reduceLT, Int.reduceLE, Int.reduceEq, Int.reduceNeg, Int.reduceNe, Int.reduceGE, Int.reduceGT, Nat.reduceBEq, Int.reduceToNat]
      all_goals simp
    obtain ⟨⟨h1, h2, h3⟩, h4⟩ := fbOk_is hok
    have hsp := sp_bd ⟨h1, h2⟩
    have hsm := fbOk_small hok
    dsimp only at hsp h1 h2 h3 hsm
    have wsp : wr .i64 (s * p) = s * p := wrap_id (by omega) (by omega)
    have wsp1 : wr .i64 (s * p - 1) = s * p - 1 := wrap_id (by omega) (by omega)
    have pz : (p = 0) = False := eq_false (by omega)
    by_cases hx : 0 ≤ x ∧ x ≤ s * p - 1
    rotate_left
    · have ex : (0 ≤ x ∧ x ≤ s * p - 1) = False := eq_false hx
      rw [@conn_bad ⟨s, p, m, q⟩ x y (fun e => hx e.2.1)] at h
      simp (config := { maxSteps := 2000000 }) only [go_sem, hG, hP, Nat.reduceEqDiff, ↓reduceIte, reduceCtorEq, Nat.reduceAdd, Nat.reduceSub, Nat.reduceMul, Nat.reduceLT, Nat.reduceLeDiff, Int.reduceAdd, Int.reduceSub, Int.reduceMul, Int.reduceLT, Int.reduceLE, Int.reduceEq, Int.reduceNeg, Int.reduceNe, Int.reduceGE, Int.reduceGT, Nat.reduceBEq, Int.reduceToNat,  spToFb_f, spToFb_t, spToFb_k, spFbOk_f, spFbOk_t, spFbOk_k, spIn_f, spIn_t, spIn_k, hok, wsp, wsp1, ex]
      repeat (refine And.intro (by first | omega | (simp; done) | (simp; omega) | (unfold appRoom; omega)) ?_)
      refine ⟨_, _, _, ?_, h⟩
      simp (config := { maxSteps := 2000000 }) only [go_sem, hG, hP, Nat.reduceEqDiff, ↓reduceIte, reduceCtorEq, Nat.reduceAdd, Nat.reduceSub, Nat.reduceMul, Nat.reduceLT, Nat.reduceLeDiff, Int.reduceAdd, Int.reduceSub, Int.reduceMul, Int.reduceLT, Int.reduceLE, Int.reduceEq, Int.reduceNeg, Int.reduceNe, Int.reduceGE, Int.reduceGT, Nat.reduceBEq, Int.reduceToNat]
      all_goals simp
    have ex : (0 ≤ x ∧ x ≤ s * p - 1) = True := eq_true hx
    by_cases hy : 0 ≤ y ∧ y ≤ s * p - 1
    rotate_left
    · have ey : (0 ≤ y ∧ y ≤ s * p - 1) = False := eq_false hy
      rw [@conn_bad ⟨s, p, m, q⟩ x y (fun e => hy e.2.2)] at h
      simp (config := { maxSteps := 2000000 }) only [go_sem, hG, hP, Nat.reduceEqDiff, ↓reduceIte, reduceCtorEq, Nat.reduceAdd, Nat.reduceSub, Nat.reduceMul, Nat.reduceLT, Nat.reduceLeDiff, Int.reduceAdd, Int.reduceSub, Int.reduceMul, Int.reduceLT, Int.reduceLE, Int.reduceEq, Int.reduceNeg, Int.reduceNe, Int.reduceGE, Int.reduceGT, Nat.reduceBEq, Int.reduceToNat,  spToFb_f, spToFb_t, spToFb_k, spFbOk_f, spFbOk_t, spFbOk_k, spIn_f, spIn_t, spIn_k, hok, wsp, wsp1, ex, ey]
      repeat (refine And.intro (by first | omega | (simp; done) | (simp; omega) | (unfold appRoom; omega)) ?_)
      refine ⟨_, _, _, ?_, h⟩
      simp (config := { maxSteps := 2000000 }) only [go_sem, hG, hP, Nat.reduceEqDiff, ↓reduceIte, reduceCtorEq, Nat.reduceAdd, Nat.reduceSub, Nat.reduceMul, Nat.reduceLT, Nat.reduceLeDiff, Int.reduceAdd, Int.reduceSub, Int.reduceMul, Int.reduceLT, Int.reduceLE, Int.reduceEq, Int.reduceNeg, Int.reduceNe, Int.reduceGE, Int.reduceGT, Nat.reduceBEq, Int.reduceToNat]
      all_goals simp
    have ey : (0 ≤ y ∧ y ≤ s * p - 1) = True := eq_true hy
    have hall : fbOk ⟨s, p, m, q⟩ = true ∧ okEnd ⟨s, p, m, q⟩ x ∧ okEnd ⟨s, p, m, q⟩ y := ⟨hok, hx, hy⟩
    by_cases hf : 0 ≤ fidx (endP x y) q
    · have ef : (0 ≤ fidx (endP x y) q) = True := eq_true hf
      rw [conn_busy hall hf] at h
      simp (config := { maxSteps := 2000000 }) only [go_sem, hG, hP, Nat.reduceEqDiff, ↓reduceIte, reduceCtorEq, Nat.reduceAdd, Nat.reduceSub, Nat.reduceMul, Nat.reduceLT, Nat.reduceLeDiff, Int.reduceAdd, Int.reduceSub, Int.reduceMul, Int.reduceLT, Int.reduceLE, Int.reduceEq, Int.reduceNeg, Int.reduceNe, Int.reduceGE, Int.reduceGT, Nat.reduceBEq, Int.reduceToNat,  spToFb_f, spToFb_t, spToFb_k, spFbOk_f, spFbOk_t, spFbOk_k, spIn_f, spIn_t, spIn_k, spHas_f, spHas_t, spHas_k, hok, wsp, wsp1, ex, ey, ef, takeF_eq, ptrs_eq, ptrs_nil]
      repeat (refine And.intro (by first | omega | (simp; done) | (simp; omega) | (unfold appRoom; omega)) ?_)
      refine ⟨_, _, _, ?_, h⟩
      simp (config := { maxSteps := 2000000 }) only [go_sem, hG, hP, Nat.reduceEqDiff, ↓reduceIte, reduceCtorEq, Nat.reduceAdd, Nat.reduceSub, Nat.reduceMul, Nat.reduceLT, Nat.reduceLeDiff, Int.reduceAdd, Int.reduceSub, Int.reduceMul, Int.reduceLT, Int.reduceLE, Int.reduceEq, Int.reduceNeg, Int.reduceNe, Int.reduceGE, Int.reduceGT, Nat.reduceBEq, Int.reduceToNat]
      all_goals simp
    have ef : (0 ≤ fidx (endP x y) q) = False := eq_false hf
    have w1 := wq hx.1 (by omega) h2.1
    have w2 := wq hy.1 (by omega) h2.1
    have hcond : q.length ≤ 1099511627776 ∧ 1 ≤ p ∧ (0 ≤ m ∧ m ≤ 12) ∧ allSmall q := ⟨by omega, h2.1, by omega, hsm⟩
    by_cases hm : 0 ≤ fmF ⟨s, p, m, q⟩ x y
    · have em : (leastI (freeP p q (x.tdiv p) (y.tdiv p)) m.toNat ≥ 0) = True := eq_true hm
      rw [conn_free hall hf hm] at h
      simp (config := { maxSteps := 2000000 }) only [go_sem, hG, hP, Nat.reduceEqDiff, ↓reduceIte, reduceCtorEq, Nat.reduceAdd, Nat.reduceSub, Nat.reduceMul, Nat.reduceLT, Nat.reduceLeDiff, Int.reduceAdd, Int.reduceSub, Int.reduceMul, Int.reduceLT, Int.reduceLE, Int.reduceEq, Int.reduceNeg, Int.reduceNe, Int.reduceGE, Int.reduceGT, Nat.reduceBEq, Int.reduceToNat,  spToFb_f, spToFb_t, spToFb_k, spFbOk_f, spFbOk_t, spFbOk_k, spIn_f, spIn_t, spIn_k, spHas_f, spHas_t, spHas_k, spFree_f, spFree_t, spFree_k, hok, wsp, wsp1, ex, ey, ef, takeF_eq, ptrs_eq, ptrs_nil, w1, w2, pz, em]
      repeat (refine And.intro (by first | omega | (simp; done) | (simp; omega) | (unfold appRoom; omega)) ?_)
      refine ⟨_, _, _, ?_, h⟩
      simp (config := { maxSteps := 2000000 }) only [go_sem, hG, hP, Nat.reduceEqDiff, ↓reduceIte, reduceCtorEq, Nat.reduceAdd, Nat.reduceSub, Nat.reduceMul, Nat.reduceLT, Nat.reduceLeDiff, Int.reduceAdd, Int.reduceSub, Int.reduceMul, Int.reduceLT, Int.reduceLE, Int.reduceEq, Int.reduceNeg, Int.reduceNe, Int.reduceGE, Int.reduceGT, Nat.reduceBEq, Int.reduceToNat,  fmF]
      all_goals simp
    have em : (leastI (freeP p q (x.tdiv p) (y.tdiv p)) m.toNat ≥ 0) = False := eq_false hm
    by_cases ha : fmA ⟨s, p, m, q⟩ x < 0
    · rw [conn_block hall hf hm (.inl ha)] at h
      have ea : (leastI (freeP p q (x.tdiv p) (-1)) m.toNat < 0) = True := eq_true ha
      simp (config := { maxSteps := 2000000 }) only [go_sem, hG, hP, Nat.reduceEqDiff, ↓reduceIte, reduceCtorEq, Nat.reduceAdd, Nat.reduceSub, Nat.reduceMul, Nat.reduceLT, Nat.reduceLeDiff, Int.reduceAdd, Int.reduceSub, Int.reduceMul, Int.reduceLT, Int.reduceLE, Int.reduceEq, Int.reduceNeg, Int.reduceNe, Int.reduceGE, Int.reduceGT, Nat.reduceBEq, Int.reduceToNat,  spToFb_f, spToFb_t, spToFb_k, spFbOk_f, spFbOk_t, spFbOk_k, spIn_f, spIn_t, spIn_k, spHas_f, spHas_t, spHas_k, spFree_f, spFree_t, spFree_k, hok, wsp, wsp1, ex, ey, ef, takeF_eq, ptrs_eq, ptrs_nil, w1, w2, pz, em, ea]
      repeat (refine And.intro (by first | omega | (simp; done) | (simp; omega) | (unfold appRoom; omega)) ?_)
      repeat' (first | (refine And.intro ?_ ?_) | (with_reducible intro _))
      all_goals first
        | omega
        | assumption
        | (refine ⟨_, _, _, ?_, h⟩; simp (config := { maxSteps := 2000000 }) only [go_sem, hG, hP, Nat.reduceEqDiff, ↓reduceIte, reduceCtorEq, Nat.reduceAdd, Nat.reduceSub, Nat.reduceMul, Nat.reduceLT, Nat.reduceLeDiff, Int.reduceAdd, Int.reduceSub, Int.reduceMul, Int.reduceLT, Int.reduceLE, Int.reduceEq, Int.reduceNeg, Int.reduceNe, Int.reduceGE, Int.reduceGT, Nat.reduceBEq, Int.reduceToNat]; all_goals (first | (simp; done) | omega))
        | (simp (config := { maxSteps := 2000000 }) only [go_sem, hG, hP, Nat.reduceEqDiff, ↓reduceIte, reduceCtorEq, Nat.reduceAdd, Nat.reduceSub, Nat.reduceMul, Nat.reduceLT, Nat.reduceLeDiff, Int.reduceAdd, Int.reduceSub, Int.reduceMul, Int.reduceLT, Int.reduceLE, Int.reduceEq, Int.reduceNeg, Int.reduceNe, Int.reduceGE, Int.reduceGT, Nat.reduceBEq, Int.reduceToNat]; repeat' (first | with_reducible rfl | (refine And.intro ?_ ?_) | (refine congrArg (Value.int _) ?_; omega) | omega))
    have ea : (leastI (freeP p q (x.tdiv p) (-1)) m.toNat < 0) = False := eq_false ha
    by_cases hb : fmB ⟨s, p, m, q⟩ y < 0
    · rw [conn_block hall hf hm (.inr hb)] at h
      have eb : (leastI (freeP p q (-1) (y.tdiv p)) m.toNat < 0) = True := eq_true hb
      simp (config := { maxSteps := 2000000 }) only [go_sem, hG, hP, Nat.reduceEqDiff, ↓reduceIte, reduceCtorEq, Nat.reduceAdd, Nat.reduceSub, Nat.reduceMul, Nat.reduceLT, Nat.reduceLeDiff, Int.reduceAdd, Int.reduceSub, Int.reduceMul, Int.reduceLT, Int.reduceLE, Int.reduceEq, Int.reduceNeg, Int.reduceNe, Int.reduceGE, Int.reduceGT, Nat.reduceBEq, Int.reduceToNat,  spToFb_f, spToFb_t, spToFb_k, spFbOk_f, spFbOk_t, spFbOk_k, spIn_f, spIn_t, spIn_k, spHas_f, spHas_t, spHas_k, spFree_f, spFree_t, spFree_k, hok, wsp, wsp1, ex, ey, ef, takeF_eq, ptrs_eq, ptrs_nil, w1, w2, pz, em, ea, eb]
      repeat (refine And.intro (by first | omega | (simp; done) | (simp; omega) | (unfold appRoom; omega)) ?_)
      repeat' (first | (refine And.intro ?_ ?_) | (with_reducible intro _))
      all_goals first
        | omega
        | assumption
        | (refine ⟨_, _, _, ?_, h⟩; simp (config := { maxSteps := 2000000 }) only [go_sem, hG, hP, Nat.reduceEqDiff, ↓reduceIte, reduceCtorEq, Nat.reduceAdd, Nat.reduceSub, Nat.reduceMul, Nat.reduceLT, Nat.reduceLeDiff, Int.reduceAdd, Int.reduceSub, Int.reduceMul, Int.reduceLT, Int.reduceLE, Int.reduceEq, Int.reduceNeg, Int.reduceNe, Int.reduceGE, Int.reduceGT, Nat.reduceBEq, Int.reduceToNat]; all_goals (first | (simp; done) | omega))
        | (simp (config := { maxSteps := 2000000 }) only [go_sem, hG, hP, Nat.reduceEqDiff, ↓reduceIte, reduceCtorEq, Nat.reduceAdd, Nat.reduceSub, Nat.reduceMul, Nat.reduceLT, Nat.reduceLeDiff, Int.reduceAdd, Int.reduceSub, Int.reduceMul, Int.reduceLT, Int.reduceLE, Int.reduceEq, Int.reduceNeg, Int.reduceNe, Int.reduceGE, Int.reduceGT, Nat.reduceBEq, Int.reduceToNat]; repeat' (first | with_reducible rfl | (refine And.intro ?_ ?_) | (refine congrArg (Value.int _) ?_; omega) | omega))
    have eb : (leastI (freeP p q (-1) (y.tdiv p)) m.toNat < 0) = False := eq_false hb
    have hab : ¬ (fmA ⟨s, p, m, q⟩ x < 0 ∨ fmB ⟨s, p, m, q⟩ y < 0) := fun e => e.elim ha hb
    rw [conn_move hall hf hm hab] at h
    have mv := mov_of hall hm hab
    have pre1 := mv.pre1 hok
    have pre2 := mv.pre2 hok
    have lok := chL_ok hok mv
    have hq : ∀ e, e < q.length → 0 ≤ (q.getD e Pz).mid ∧ (q.getD e Pz).mid ≤ 11 := fun e he => by
      have := (h4 e he).1.2.2; dsimp only at this; omega
    have ca : leastI (freeP p q (x.tdiv p) (-1)) m.toNat = fmA ⟨s, p, m, q⟩ x := rfl
    have cb : leastI (freeP p q (-1) (y.tdiv p)) m.toNat = fmB ⟨s, p, m, q⟩ y := rfl
    have c1 : chain q p (q.length + 1) true (y.tdiv p) (fmA ⟨s, p, m, q⟩ x) (fmB ⟨s, p, m, q⟩ y) = ch1 ⟨s, p, m, q⟩ x y := rfl
    have c2 : chain q p (q.length + 1) false (x.tdiv p) (fmB ⟨s, p, m, q⟩ y) (fmA ⟨s, p, m, q⟩ x) = ch2 ⟨s, p, m, q⟩ x y := rfl
    have va := mv.a0; have vb := mv.b0; have ua := mv.am; have ub := mv.bm
    dsimp only at ua ub pre1 pre2
    have h1L : chL ⟨s, p, m, q⟩ x y = if (ch2 ⟨s, p, m, q⟩ x y).length < (ch1 ⟨s, p, m, q⟩ x y).length then ch2 ⟨s, p, m, q⟩ x y else ch1 ⟨s, p, m, q⟩ x y := rfl
    have h1M : chM ⟨s, p, m, q⟩ x y = if (ch2 ⟨s, p, m, q⟩ x y).length < (ch1 ⟨s, p, m, q⟩ x y).length then fmB ⟨s, p, m, q⟩ y else fmA ⟨s, p, m, q⟩ x := rfl
    generalize ga : fmA ⟨s, p, m, q⟩ x = a at *
    generalize gb : fmB ⟨s, p, m, q⟩ y = b at *
    generalize g1 : ch1 ⟨s, p, m, q⟩ x y = l1 at *
    generalize g2 : ch2 ⟨s, p, m, q⟩ x y = l2 at *
    have o1 : a + b - a = b := by omega
    have o2 : a + b - b = a := by omega
    have wab : wr .i64 (a + b) = a + b := wrap_id (by omega) (by omega)
    have pz1 : (a < 0) = False := eq_false (by omega)
    have pz2 : (b < 0) = False := eq_false (by omega)
    by_cases hlt : l2.length < l1.length
    · have elt : ((l2.length : Int) < (l1.length : Int)) = True := eq_true (by omega)
      rw [if_pos hlt] at h1L h1M
      rw [h1L, h1M] at h
      rw [h1L] at lok
      simp (config := { maxSteps := 2000000 }) only [go_sem, hG, hP, Nat.reduceEqDiff, ↓reduceIte, reduceCtorEq, Nat.reduceAdd, Nat.reduceSub, Nat.reduceMul, Nat.reduceLT, Nat.reduceLeDiff, Int.reduceAdd, Int.reduceSub, Int.reduceMul, Int.reduceLT, Int.reduceLE, Int.reduceEq, Int.reduceNeg, Int.reduceNe, Int.reduceGE, Int.reduceGT, Nat.reduceBEq, Int.reduceToNat,  spToFb_f, spToFb_t, spToFb_k, spFbOk_f, spFbOk_t, spFbOk_k, spIn_f, spIn_t, spIn_k, spHas_f, spHas_t, spHas_k, spFree_f, spFree_t, spFree_k, spChn_f, spChn_t, spChn_k, hok, wsp, wsp1, ex, ey, ef, takeF_eq, ptrs_eq, ptrs_nil, w1, w2, pz, em, ca, cb, pz1, pz2, takeCnH_eq, cnTk_eq, o1, o2, c1, c2, elt]
      repeat (refine And.intro (by first | omega | (simp; done) | (simp; omega) | (unfold appRoom; omega)) ?_)
      repeat' (first | (refine And.intro ?_ ?_) | (with_reducible intro _))
      all_goals try (first | omega | assumption | exact pre1 | exact pre2 | (simp (config := { maxSteps := 2000000 }) only [go_sem, hG, hP, Nat.reduceEqDiff, ↓reduceIte, reduceCtorEq, Nat.reduceAdd, Nat.reduceSub, Nat.reduceMul, Nat.reduceLT, Nat.reduceLeDiff, Int.reduceAdd, Int.reduceSub, Int.reduceMul, Int.reduceLT, Int.reduceLE, Int.reduceEq, Int.reduceNeg, Int.reduceNe, Int.reduceGE, Int.reduceGT, Nat.reduceBEq, Int.reduceToNat]; repeat' (first | with_reducible rfl | (refine And.intro ?_ ?_) | (refine congrArg (Value.int _) ?_; omega) | omega)); done)
      have tk : l2.take l2.length = l2 := List.take_length
      refine loopI hE (fun j : Nat => ⟨[(3, .ptr 0 0), (4, .ptr 1 0), (5, .ptr 2 0), (6, .ptr 3 0), (13, .ptr 5 0), (14, .ptr 6 0), (17, .v (.int .i64 b)), (19, .sub 8 2 0 j), (106, .sub 7 1 0 l2.length), (107, .v (.int .i64 l2.length)), (108, .v (.int .i64 j))], [(0, .box [.v (.int .i64 s), .v (.int .i64 p), .v (.int .i64 m), .sub 4 3 0 q.length]), (1, .box [.v (.int .i64 x)]), (2, .box [.v (.int .i64 y)]), (3, .box [.v (.int .i64 0), .v (.int .i64 0), .v (.int .i64 0), .v (.slice none 0 0)]), (4, .row .path (recol q (a + b) (l2.take j))), (5, .box [.v (.int .i64 a)]), (6, .box [.v (.int .i64 b)]), (7, .row .int (ints l2)), (8, .row .move (mvs q (a + b) (l2.take j)))], 9, Try.f24.ntmps⟩) (fun j => j ≤ l2.length) (fun j => l2.length - j) ⟨0, Nat.zero_le _, SubS.weak ?_⟩ ?_
      · simp (config := { maxSteps := 2000000 }) only [go_sem, hG, hP, Nat.reduceEqDiff, ↓reduceIte, reduceCtorEq, Nat.reduceAdd, Nat.reduceSub, Nat.reduceMul, Nat.reduceLT, Nat.reduceLeDiff, Int.reduceAdd, Int.reduceSub, Int.reduceMul, Int.reduceLT, Int.reduceLE, Int.reduceEq, Int.reduceNeg, Int.reduceNe, Int.reduceGE, Int.reduceGT, Nat.reduceBEq, Int.reduceToNat,  mvs, recol_nil]
        repeat' (first | with_reducible rfl | (refine And.intro ?_ ?_) | (refine congrArg (Value.int _) ?_; omega) | omega)
      · intro j hj
        by_cases hlj : j < l2.length
        · have e0 : ((j : Int) < (l2.length : Int)) = True := eq_true (by omega)
          have hge := ints_get hlj
          have hbd := lok.bd j hlj
          have hnt := not_in_take lok.di hlj
          have hsn := take_snoc hlj
          dsimp only at hbd
          generalize l2.getD j 0 = e at *
          have hqb := hq e hbd
          have hz : (recol q (a + b) (l2.take j)).getD e Pz = q.getD e Pz := by rw [recol_get hbd, if_neg hnt]
          have hset := recol_snoc (c := a + b) (l := l2.take j) hbd
          have hz2 : (recol q (a + b) (l2.take (j + 1))).getD e Pz = swp (a + b) (q.getD e Pz) := by rw [recol_get hbd, if_pos (by rw [hsn]; simp)]
          rw [← hsn] at hset
          have hms : mvs q (a + b) (l2.take (j + 1)) = mvs q (a + b) (l2.take j) ++ [⟨(q.getD e Pz).src, a + b - (q.getD e Pz).mid⟩] := by rw [hsn, mvs_snoc rfl]
          have hml : (mvs q (a + b) (l2.take j)).length = j := by rw [mvs_len, List.length_take]; omega
          generalize q.getD e Pz = z at *
          rw [swp_eq] at hset hz2
          have wz : wr .i64 (a + b - z.mid) = a + b - z.mid := wrap_id (by omega) (by omega)
          have hlq := lok.le
          dsimp only at hlq
          simp (config := { maxSteps := 2000000 }) only [go_sem, hG, hP, Nat.reduceEqDiff, ↓reduceIte, reduceCtorEq, Nat.reduceAdd, Nat.reduceSub, Nat.reduceMul, Nat.reduceLT, Nat.reduceLeDiff, Int.reduceAdd, Int.reduceSub, Int.reduceMul, Int.reduceLT, Int.reduceLE, Int.reduceEq, Int.reduceNeg, Int.reduceNe, Int.reduceGE, Int.reduceGT, Nat.reduceBEq, Int.reduceToNat,  e0, hge, hz, hz2, hset, wz, wab, recol_len, ints_len, hml]
          (try simp (disch := omega) only [wrap_id])
          repeat (refine And.intro (by first | omega | (simp; done) | (simp; omega) | (unfold appRoom; omega)) ?_)
          repeat' (first | (refine And.intro ?_ ?_) | (with_reducible intro _))
          all_goals first
            | omega
            | assumption
            | (unfold appRoom; omega)
            | (refine ⟨j + 1, ⟨by omega, by omega⟩, SubS.weak ?_⟩; simp (config := { maxSteps := 2000000 }) only [go_sem, hG, hP, Nat.reduceEqDiff, ↓reduceIte, reduceCtorEq, Nat.reduceAdd, Nat.reduceSub, Nat.reduceMul, Nat.reduceLT, Nat.reduceLeDiff, Int.reduceAdd, Int.reduceSub, Int.reduceMul, Int.reduceLT, Int.reduceLE, Int.reduceEq, Int.reduceNeg, Int.reduceNe, Int.reduceGE, Int.reduceGT, Nat.reduceBEq, Int.reduceToNat,  hms]; repeat' (first | with_reducible rfl | (refine And.intro ?_ ?_) | (refine congrArg (Value.int _) ?_; omega) | omega); all_goals (first | (simp; done) | (rw [List.take_of_length_le (by omega)]; done)))
        · have e0 : ((j : Int) < (l2.length : Int)) = False := eq_false (by omega)
          obtain rfl : j = l2.length := by omega
          rw [tk]
          have rtk : (recol q (a + b) l2).take q.length = recol q (a + b) l2 := List.take_of_length_le (by rw [recol_len]; omega)
          have mtk : (mvs q (a + b) l2).take l2.length = mvs q (a + b) l2 := List.take_of_length_le (by rw [mvs_len]; omega)
          simp (config := { maxSteps := 2000000 }) only [go_sem, hG, hP, Nat.reduceEqDiff, ↓reduceIte, reduceCtorEq, Nat.reduceAdd, Nat.reduceSub, Nat.reduceMul, Nat.reduceLT, Nat.reduceLeDiff, Int.reduceAdd, Int.reduceSub, Int.reduceMul, Int.reduceLT, Int.reduceLE, Int.reduceEq, Int.reduceNeg, Int.reduceNe, Int.reduceGE, Int.reduceGT, Nat.reduceBEq, Int.reduceToNat,  e0, recol_len, rtk, mtk]
          repeat (refine And.intro (by first | omega | (simp; done) | (simp; omega) | (unfold appRoom; omega)) ?_)
          refine ⟨_, _, _, ?_, h⟩
          simp (config := { maxSteps := 2000000 }) only [go_sem, hG, hP, Nat.reduceEqDiff, ↓reduceIte, reduceCtorEq, Nat.reduceAdd, Nat.reduceSub, Nat.reduceMul, Nat.reduceLT, Nat.reduceLeDiff, Int.reduceAdd, Int.reduceSub, Int.reduceMul, Int.reduceLT, Int.reduceLE, Int.reduceEq, Int.reduceNeg, Int.reduceNe, Int.reduceGE, Int.reduceGT, Nat.reduceBEq, Int.reduceToNat,  rtk, mtk]
          repeat' (first | with_reducible rfl | (refine And.intro ?_ ?_) | (refine congrArg (Value.int _) ?_; omega) | omega)
          all_goals (first | (simp [mvs_len, recol_len]; done) | (rw [rtk]; done) | exact mtk)
    · have elt : ((l2.length : Int) < (l1.length : Int)) = False := eq_false (by omega)
      rw [if_neg hlt] at h1L h1M
      rw [h1L, h1M] at h
      rw [h1L] at lok
      simp (config := { maxSteps := 2000000 }) only [go_sem, hG, hP, Nat.reduceEqDiff, ↓reduceIte, reduceCtorEq, Nat.reduceAdd, Nat.reduceSub, Nat.reduceMul, Nat.reduceLT, Nat.reduceLeDiff, Int.reduceAdd, Int.reduceSub, Int.reduceMul, Int.reduceLT, Int.reduceLE, Int.reduceEq, Int.reduceNeg, Int.reduceNe, Int.reduceGE, Int.reduceGT, Nat.reduceBEq, Int.reduceToNat,  spToFb_f, spToFb_t, spToFb_k, spFbOk_f, spFbOk_t, spFbOk_k, spIn_f, spIn_t, spIn_k, spHas_f, spHas_t, spHas_k, spFree_f, spFree_t, spFree_k, spChn_f, spChn_t, spChn_k, hok, wsp, wsp1, ex, ey, ef, takeF_eq, ptrs_eq, ptrs_nil, w1, w2, pz, em, ca, cb, pz1, pz2, takeCnH_eq, cnTk_eq, o1, o2, c1, c2, elt]
      repeat (refine And.intro (by first | omega | (simp; done) | (simp; omega) | (unfold appRoom; omega)) ?_)
      repeat' (first | (refine And.intro ?_ ?_) | (with_reducible intro _))
      all_goals try (first | omega | assumption | exact pre1 | exact pre2 | (simp (config := { maxSteps := 2000000 }) only [go_sem, hG, hP, Nat.reduceEqDiff, ↓reduceIte, reduceCtorEq, Nat.reduceAdd, Nat.reduceSub, Nat.reduceMul, Nat.reduceLT, Nat.reduceLeDiff, Int.reduceAdd, Int.reduceSub, Int.reduceMul, Int.reduceLT, Int.reduceLE, Int.reduceEq, Int.reduceNeg, Int.reduceNe, Int.reduceGE, Int.reduceGT, Nat.reduceBEq, Int.reduceToNat]; repeat' (first | with_reducible rfl | (refine And.intro ?_ ?_) | (refine congrArg (Value.int _) ?_; omega) | omega)); done)
      have tk : l1.take l1.length = l1 := List.take_length
      refine loopI hE (fun j : Nat => ⟨[(3, .ptr 0 0), (4, .ptr 1 0), (5, .ptr 2 0), (6, .ptr 3 0), (13, .ptr 5 0), (14, .ptr 6 0), (17, .v (.int .i64 a)), (19, .sub 8 2 0 j), (106, .sub 7 1 0 l1.length), (107, .v (.int .i64 l1.length)), (108, .v (.int .i64 j))], [(0, .box [.v (.int .i64 s), .v (.int .i64 p), .v (.int .i64 m), .sub 4 3 0 q.length]), (1, .box [.v (.int .i64 x)]), (2, .box [.v (.int .i64 y)]), (3, .box [.v (.int .i64 0), .v (.int .i64 0), .v (.int .i64 0), .v (.slice none 0 0)]), (4, .row .path (recol q (a + b) (l1.take j))), (5, .box [.v (.int .i64 a)]), (6, .box [.v (.int .i64 b)]), (7, .row .int (ints l1)), (8, .row .move (mvs q (a + b) (l1.take j)))], 9, Try.f24.ntmps⟩) (fun j => j ≤ l1.length) (fun j => l1.length - j) ⟨0, Nat.zero_le _, SubS.weak ?_⟩ ?_
      · simp (config := { maxSteps := 2000000 }) only [go_sem, hG, hP, Nat.reduceEqDiff, ↓reduceIte, reduceCtorEq, Nat.reduceAdd, Nat.reduceSub, Nat.reduceMul, Nat.reduceLT, Nat.reduceLeDiff, Int.reduceAdd, Int.reduceSub, Int.reduceMul, Int.reduceLT, Int.reduceLE, Int.reduceEq, Int.reduceNeg, Int.reduceNe, Int.reduceGE, Int.reduceGT, Nat.reduceBEq, Int.reduceToNat,  mvs, recol_nil]
        repeat' (first | with_reducible rfl | (refine And.intro ?_ ?_) | (refine congrArg (Value.int _) ?_; omega) | omega)
      · intro j hj
        by_cases hlj : j < l1.length
        · have e0 : ((j : Int) < (l1.length : Int)) = True := eq_true (by omega)
          have hge := ints_get hlj
          have hbd := lok.bd j hlj
          have hnt := not_in_take lok.di hlj
          have hsn := take_snoc hlj
          dsimp only at hbd
          generalize l1.getD j 0 = e at *
          have hqb := hq e hbd
          have hz : (recol q (a + b) (l1.take j)).getD e Pz = q.getD e Pz := by rw [recol_get hbd, if_neg hnt]
          have hset := recol_snoc (c := a + b) (l := l1.take j) hbd
          have hz2 : (recol q (a + b) (l1.take (j + 1))).getD e Pz = swp (a + b) (q.getD e Pz) := by rw [recol_get hbd, if_pos (by rw [hsn]; simp)]
          rw [← hsn] at hset
          have hms : mvs q (a + b) (l1.take (j + 1)) = mvs q (a + b) (l1.take j) ++ [⟨(q.getD e Pz).src, a + b - (q.getD e Pz).mid⟩] := by rw [hsn, mvs_snoc rfl]
          have hml : (mvs q (a + b) (l1.take j)).length = j := by rw [mvs_len, List.length_take]; omega
          generalize q.getD e Pz = z at *
          rw [swp_eq] at hset hz2
          have wz : wr .i64 (a + b - z.mid) = a + b - z.mid := wrap_id (by omega) (by omega)
          have hlq := lok.le
          dsimp only at hlq
          simp (config := { maxSteps := 2000000 }) only [go_sem, hG, hP, Nat.reduceEqDiff, ↓reduceIte, reduceCtorEq, Nat.reduceAdd, Nat.reduceSub, Nat.reduceMul, Nat.reduceLT, Nat.reduceLeDiff, Int.reduceAdd, Int.reduceSub, Int.reduceMul, Int.reduceLT, Int.reduceLE, Int.reduceEq, Int.reduceNeg, Int.reduceNe, Int.reduceGE, Int.reduceGT, Nat.reduceBEq, Int.reduceToNat,  e0, hge, hz, hz2, hset, wz, wab, recol_len, ints_len, hml]
          (try simp (disch := omega) only [wrap_id])
          repeat (refine And.intro (by first | omega | (simp; done) | (simp; omega) | (unfold appRoom; omega)) ?_)
          repeat' (first | (refine And.intro ?_ ?_) | (with_reducible intro _))
          all_goals first
            | omega
            | assumption
            | (unfold appRoom; omega)
            | (refine ⟨j + 1, ⟨by omega, by omega⟩, SubS.weak ?_⟩; simp (config := { maxSteps := 2000000 }) only [go_sem, hG, hP, Nat.reduceEqDiff, ↓reduceIte, reduceCtorEq, Nat.reduceAdd, Nat.reduceSub, Nat.reduceMul, Nat.reduceLT, Nat.reduceLeDiff, Int.reduceAdd, Int.reduceSub, Int.reduceMul, Int.reduceLT, Int.reduceLE, Int.reduceEq, Int.reduceNeg, Int.reduceNe, Int.reduceGE, Int.reduceGT, Nat.reduceBEq, Int.reduceToNat,  hms]; repeat' (first | with_reducible rfl | (refine And.intro ?_ ?_) | (refine congrArg (Value.int _) ?_; omega) | omega); all_goals (first | (simp; done) | (rw [List.take_of_length_le (by omega)]; done)))
        · have e0 : ((j : Int) < (l1.length : Int)) = False := eq_false (by omega)
          obtain rfl : j = l1.length := by omega
          rw [tk]
          have rtk : (recol q (a + b) l1).take q.length = recol q (a + b) l1 := List.take_of_length_le (by rw [recol_len]; omega)
          have mtk : (mvs q (a + b) l1).take l1.length = mvs q (a + b) l1 := List.take_of_length_le (by rw [mvs_len]; omega)
          simp (config := { maxSteps := 2000000 }) only [go_sem, hG, hP, Nat.reduceEqDiff, ↓reduceIte, reduceCtorEq, Nat.reduceAdd, Nat.reduceSub, Nat.reduceMul, Nat.reduceLT, Nat.reduceLeDiff, Int.reduceAdd, Int.reduceSub, Int.reduceMul, Int.reduceLT, Int.reduceLE, Int.reduceEq, Int.reduceNeg, Int.reduceNe, Int.reduceGE, Int.reduceGT, Nat.reduceBEq, Int.reduceToNat,  e0, recol_len, rtk, mtk]
          repeat (refine And.intro (by first | omega | (simp; done) | (simp; omega) | (unfold appRoom; omega)) ?_)
          refine ⟨_, _, _, ?_, h⟩
          simp (config := { maxSteps := 2000000 }) only [go_sem, hG, hP, Nat.reduceEqDiff, ↓reduceIte, reduceCtorEq, Nat.reduceAdd, Nat.reduceSub, Nat.reduceMul, Nat.reduceLT, Nat.reduceLeDiff, Int.reduceAdd, Int.reduceSub, Int.reduceMul, Int.reduceLT, Int.reduceLE, Int.reduceEq, Int.reduceNeg, Int.reduceNe, Int.reduceGE, Int.reduceGT, Nat.reduceBEq, Int.reduceToNat,  rtk, mtk]
          repeat' (first | with_reducible rfl | (refine And.intro ?_ ?_) | (refine congrArg (Value.int _) ?_; omega) | omega)
          all_goals (first | (simp [mvs_len, recol_len]; done) | (rw [rtk]; done) | exact mtk)
  · exact h.elim
end Go.Proofs.YtgmcijagaielaaaE
